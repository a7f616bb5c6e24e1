/- super.Decode: a block of a sector; no condition but that octets are octets. -/
import Derived.Test.YtiiphlfgdkjjiaaZDisksSGet
import Derived.Test.YtiiphlfgdkjjiaaZDisksSMax
namespace Go.Proofs.Ytiiphlfgdkjjiaa.Q
open Go.RowKit Go.Proofs.YtiiphlfgdkjjiaaW.PrintWords Go.Proofs.YtiiphlfgdkjjiaaW.PrintLast Go.Proofs.YtiiphlfgdkjjiaaW.PrintMore
open Go.Proofs.Ytiiphlfgdkjjiaa.CrcP
set_option linter.unusedVariables false
set_option linter.unusedSimpArgs false

/-- A sector's k-th number. -/
def numAt (l : List Int) (k : Nat) : Nat := num ((l.drop (4 + 8 * k)).take 8)
/-- The number of the first k that is too great, if any. -/
def bigAt (l : List Int) : Bool := decide (1099511627776 < numAt l 0) || decide (1099511627776 < numAt l 1) || decide (1099511627776 < numAt l 2) || decide (1099511627776 < numAt l 3) || decide (1099511627776 < numAt l 4)
def dec (l : List Int) : Int × Int × Int × Int × Int × Int :=
  if l.length = 64 then (if l.take 4 = markL then (if num ((l.take 48).drop 44) = csum (nats (l.take 44)) then (if (l.drop 48).any (fun x => decide (x ≠ 0)) = true then (0, 0, 0, 0, 0, 23) else
    (if bigAt l = true then (0, 0, 0, 0, 0, 4) else ((numAt l 0 : Nat), (numAt l 1 : Nat), (numAt l 2 : Nat), (numAt l 3 : Nat), (numAt l 4 : Nat), 0))) else (0, 0, 0, 0, 0, 21)) else (0, 0, 0, 0, 0, 22)) else (0, 0, 0, 0, 0, 3)
def super_Decode.f (l : List Int) : Option (Int × Int × Int × Int × Int × Int) := if octs l = true then some (dec l) else none
/-- What the loop has stored when k numbers are read. -/
def outC (l : List Int) : Nat → Array Value
  | 0 => #[.int .i64 0, .int .i64 0, .int .i64 0, .int .i64 0, .int .i64 0]
  | 1 => #[.int .i64 (numAt l 0 : Nat), .int .i64 0, .int .i64 0, .int .i64 0, .int .i64 0]
  | 2 => #[.int .i64 (numAt l 0 : Nat), .int .i64 (numAt l 1 : Nat), .int .i64 0, .int .i64 0, .int .i64 0]
  | 3 => #[.int .i64 (numAt l 0 : Nat), .int .i64 (numAt l 1 : Nat), .int .i64 (numAt l 2 : Nat), .int .i64 0, .int .i64 0]
  | 4 => #[.int .i64 (numAt l 0 : Nat), .int .i64 (numAt l 1 : Nat), .int .i64 (numAt l 2 : Nat), .int .i64 (numAt l 3 : Nat), .int .i64 0]
  | _ => #[.int .i64 (numAt l 0 : Nat), .int .i64 (numAt l 1 : Nat), .int .i64 (numAt l 2 : Nat), .int .i64 (numAt l 3 : Nat), .int .i64 (numAt l 4 : Nat)]
theorem numAt_lt {l : List Int} (h : octs l = true) (k : Nat) : numAt l k < 18446744073709551616 := by
  have := num_lt (octs_drop h (4 + 8 * k)) 8
  unfold numAt
  exact Nat.lt_of_lt_of_le this (by decide)
theorem seg_length {l : List Int} (h : l.length = 64) {k : Nat} (hk : k < 5) : ((l.drop (4 + 8 * k)).take 8).length = 8 := by
  rw [List.length_take, List.length_drop]; omega
theorem big_at {l : List Int} {k : Nat} (hk : k < 5) (h : 1099511627776 < numAt l k) : bigAt l = true := by
  unfold bigAt
  rcases (by omega : k = 0 ∨ k = 1 ∨ k = 2 ∨ k = 3 ∨ k = 4) with rfl | rfl | rfl | rfl | rfl <;> simp [h]
theorem big_no {l : List Int} (h : ∀ k, k < 5 → numAt l k ≤ 1099511627776) : bigAt l = false := by
  have h0 := h 0 (by omega)
  have h1 := h 1 (by omega)
  have h2 := h 2 (by omega)
  have h3 := h 3 (by omega)
  have h4 := h 4 (by omega)
  unfold bigAt
  rw [decide_eq_false (by omega), decide_eq_false (by omega), decide_eq_false (by omega), decide_eq_false (by omega), decide_eq_false (by omega)]
  rfl

theorem five_put {W : World} {g t : Nat} {x0 x1 x2 x3 x4 v0 v1 v2 v3 v4 : Value} (h : W.heap[g]? = some (.cells #[x0, x1, x2, x3, x4] t (0, 0))) :
    (((((W.setCell ⟨g, 0, none⟩ v0).setCell ⟨g, 1, none⟩ v1).setCell ⟨g, 2, none⟩ v2).setCell ⟨g, 3, none⟩ v3).setCell ⟨g, 4, none⟩ v4).heap[g]? = some (.cells #[v0, v1, v2, v3, v4] t (0, 0)) :=
  blk_put (blk_put (blk_put (blk_put (blk_put h 0 v0 rfl) 1 v1 rfl) 2 v2 rfl) 3 v3 rfl) 4 v4 rfl
theorem five_below {w W : World} {g B : Nat} {v0 v1 v2 v3 v4 : Value} (h : Below B w W) (hg : B ≤ g) : Below B w (((((W.setCell ⟨g, 0, none⟩ v0).setCell ⟨g, 1, none⟩ v1).setCell ⟨g, 2, none⟩ v2).setCell ⟨g, 3, none⟩ v3).setCell ⟨g, 4, none⟩ v4) :=
  ((((h.setCell (p := ⟨g, 0, none⟩) hg _).setCell (p := ⟨g, 1, none⟩) hg _).setCell (p := ⟨g, 2, none⟩) hg _).setCell (p := ⟨g, 3, none⟩) hg _).setCell (p := ⟨g, 4, none⟩) hg _

set_option maxHeartbeats 16000000 in
set_option maxRecDepth 100000 in
theorem super_Decode.calls (A0 : Option Addr) (c0 : Nat) (l0 : List Int) (r1 r2 r3 r4 r5 r6 : Int) (w : World) (hr0 : Kd.C (Kd.int .u8) w A0 l0.length l0) (hc0 : l0.length ≤ c0) (h : super_Decode.f l0 = some (r1, r2, r3, r4, r5, r6)) :
    Calls Try.prog 35 #[.slice A0 l0.length c0] w fun e w' => e = .returned (.tuple #[.agg #[.int .i64 r1, .int .i64 r2, .int .i64 r3, .int .i64 r4, .int .i64 r5], .int .i64 r6]) ∧ Below w.heap.size w w' := by
  have hu := Try.underlying33
  have hua := Try.underlying103
  unfold super_Decode.f at h
  have ho : octs l0 = true := by
    by_cases ho : octs l0 = true
    · exact ho
    · rw [if_neg ho] at h; cases h
  rw [if_pos ho] at h
  have h := Option.some.inj h
  unfold dec at h
  have HO := Aside0.mk ho
  have HR := Aside0.mk hr0
  clear hr0 ho
  by_cases hl : l0.length = 64
  · rw [if_pos hl] at h
    have HL := Aside0.mk hl
    rw [hl] at HR hc0 ⊢
    have H := Aside0.mk h
    clear h hl
    obtain ⟨i0, hi0, _, hsz0, _⟩ := info_parts info5
    go_enter Try.func35, Try.ntmps35
    have kc := Go.Joins.run_convert_bytes_const_at (P := Try.prog) (w.alloc (.cells #[.int .i64 0, .int .i64 0, .int .i64 0, .int .i64 0, .int .i64 0] 33)) 50 5 #[.int .u8 116, .int .u8 115, .int .u8 98, .int .u8 49] 4 4 (w.heap.size + 1) (by simp) Try.underlying50 Try.underlying5
    go_wp2_with fail
    obtain ⟨W2, hW2⟩ : ∃ W2, W2 = (w.alloc (.cells #[.int .i64 0, .int .i64 0, .int .i64 0, .int .i64 0, .int .i64 0] 33)).alloc (.cells #[.int .u8 116, .int .u8 115, .int .u8 98, .int .u8 49] 5 (4, 5)) := ⟨_, rfl⟩
    have BKR := Aside0.mk (show W2.heap[w.heap.size]? = some (.cells #[.int .i64 0, .int .i64 0, .int .i64 0, .int .i64 0, .int .i64 0] 33 (0, 0)) from by rw [hW2]; exact blk_alloc (blk_new _ _) _)
    have HM := Aside0.mk (show Kd.C (Kd.int .u8) W2 (some ⟨w.heap.size + 1, 0, none⟩) 4 markL from by
      rw [hW2]
      exact C_of_block (g := w.heap.size + 1) markL (by decide) (by have := blk_new (w.alloc (.cells #[.int .i64 0, .int .i64 0, .int .i64 0, .int .i64 0, .int .i64 0] 33)) (.cells #[.int .u8 116, .int .u8 115, .int .u8 98, .int .u8 49] 5 (4, 5)); rw [World.size_alloc] at this; exact this))
    have HB := Aside0.mk (show Below w.heap.size w W2 from by rw [hW2]; exact below_alloc (below_alloc (Below.refl _ _) _) _)
    rw [← hW2]
    clear hW2 kc
    have HPF := hasPrefix_any A0 c0 l0 (some ⟨w.heap.size + 1, 0, none⟩) 4 markL W2 (by rw [HL.out]; exact Kd.C_below HR.out HB.out) (by rw [HL.out]; exact hc0) HM.out (by rw [HL.out]; decide) (fun x hx => octs_get HO.out hx) (by decide)
    rw [HL.out] at HPF
    refine HPF.mono ?_
    clear HPF HM
    rintro e w3 ⟨rfl, rfl⟩
    have h := H.out
    clear H
    by_cases hm : l0.take 4 = markL
    · rw [if_pos hm] at h
      rw [show decide (l0.take markL.length = markL) = true from decide_eq_true hm]
      have H := Aside0.mk h
      clear h hm
      have hcut1 := cut_mid (P := Try.prog) 50 5 .i64 .i64 Try.underlying50 hi0 1 hsz0 A0 64 c0 44 48 (by omega) (by omega) (by omega) hc0
      obtain ⟨A1, hA1⟩ : ∃ A1, A1 = (if c0 = (44 : Int).toNat then A0 else A0.map (·.add ((44 : Int).toNat * 1))) := ⟨_, rfl⟩
      rw [← hA1] at hcut1
      have hC1 := Kd.C_mid (lo := 44) (hi := 48) (c := c0) (show Kd.C (Kd.int .u8) w3 A0 l0.length l0 from by rw [HL.out]; exact Kd.C_below HR.out HB.out) (by omega) (by rw [HL.out]; omega) (by rw [HL.out]; exact hc0)
      have HC1 := Aside0.mk (show Kd.C (Kd.int .u8) w3 A1 ((l0.take 48).drop 44).length ((l0.take 48).drop 44) from by rw [hA1]; exact hC1)
      have hl1 : ((l0.take 48).drop 44).length = 4 := by rw [List.length_drop, List.length_take, HL.out]; decide
      have hg1 := octets_Get.calls 20 A1 (c0 - 44) ((l0.take 48).drop 44) _ _ w3 HC1.out (by rw [hl1]; omega) (get_f (octs_drop (octs_take HO.out 48) 44) (by rw [hl1]; decide) (by rw [hl1]; decide))
      rw [hl1] at hg1
      have HG1 := Aside0.mk hg1
      have HNL := Aside0.mk (show num ((l0.take 48).drop 44) < 4294967296 from by have := num_lt (octs_drop (octs_take HO.out 48) 44) 4; rw [List.take_of_length_le (by rw [hl1]; exact Nat.le_refl _)] at this; exact this)
      clear hC1 hA1 hg1 hl1
      go_wp2_with fail
      refine HG1.out.mono ?_
      clear HG1 hcut1
      rintro e w4 ⟨rfl, ⟨⟨m4, rfl⟩⟩⟩
      obtain ⟨nm, hnm⟩ : ∃ nm, nm = num ((l0.take 48).drop 44) := ⟨_, rfl⟩
      have HNM := Aside0.mk hnm
      have hnl : nm < 4294967296 := by rw [hnm]; exact HNL.out
      rw [← hnm]
      clear hnm HC1 HNL
      obtain ⟨W4, hW4⟩ : ∃ W4, W4 = w3.drewN m4 := ⟨_, rfl⟩
      have hb4 : Below w3.heap.size w3 W4 := by rw [hW4]; exact pw_below_drewN (Below.refl _ _) _
      have BKR4 := Aside0.mk (blk_below BKR.out hb4)
      have HB4 := Aside0.mk (below_step HB.out hb4)
      rw [← hW4]
      clear hW4 hb4 BKR HB
      have hcut2 := cut_to (P := Try.prog) 50 5 .i64 Try.underlying50 hi0 A0 64 c0 44 (by omega) (by omega) hc0
      have hsm := sum_any A0 c0 (l0.take 44) W4 (by have := Kd.C_take (m := 44) (show Kd.C (Kd.int .u8) W4 A0 l0.length l0 from by rw [HL.out]; exact Kd.C_below HR.out HB4.out) (by rw [HL.out]; omega); exact this) (octs_take HO.out 44)
      rw [show (l0.take 44).length = 44 from by rw [List.length_take, HL.out]; decide] at hsm
      have HSM := Aside0.mk hsm
      have HSL := Aside0.mk (show csum (nats (l0.take 44)) < 4294967296 from cext_lt (by decide) (octs_lt (octs_take HO.out 44)))
      clear hsm
      go_wp2_with fail
      refine HSM.out.mono ?_
      clear HSM hcut2
      rintro e w5 ⟨rfl, hb5⟩
      obtain ⟨sm, hsm⟩ : ∃ sm, sm = csum (nats (l0.take 44)) := ⟨_, rfl⟩
      have HSN := Aside0.mk hsm
      have hsl : sm < 4294967296 := by rw [hsm]; exact HSL.out
      rw [← hsm]
      clear hsm HSL
      have BKR5 := Aside0.mk (blk_below BKR4.out hb5)
      have HB5 := Aside0.mk (below_step HB4.out hb5)
      clear hb5 BKR4 HB4
      have h := H.out
      clear H
      rw [← HNM.out, ← HSN.out] at h
      by_cases hns : nm = sm
      · rw [if_pos hns] at h
        have H := Aside0.mk h
        have b1 : ((nm : Int) != (sm : Int)) = false := by rw [bne_eq_false_iff_eq]; omega
        have b2 : (nm != sm) = false := by rw [bne_eq_false_iff_eq]; exact hns
        clear h hns
        have hcut3 := cut_from (P := Try.prog) 50 5 .i64 Try.underlying50 hi0 1 hsz0 A0 64 c0 48 (by omega) (by omega)
        obtain ⟨A3, hA3⟩ : ∃ A3, A3 = (if c0 = (48 : Int).toNat then A0 else A0.map (·.add ((48 : Int).toNat * 1))) := ⟨_, rfl⟩
        rw [← hA3] at hcut3
        have hC3 := Kd.C_drop (m := 48) (c := c0) (show Kd.C (Kd.int .u8) w5 A0 l0.length l0 from by rw [HL.out]; exact Kd.C_below HR.out HB5.out) (by rw [HL.out]; omega) (by rw [HL.out]; exact hc0)
        have hl3 : (l0.drop 48).length = 16 := by rw [List.length_drop, HL.out]
        have hmx := max_any A3 (c0 - 48) (l0.drop 48) w5 (by rw [hA3]; exact hC3) (by rw [hl3]; decide) (fun x hx => (octs_get (octs_drop HO.out 48) hx).1)
        rw [hl3] at hmx
        have HMX := Aside0.mk hmx
        have HMP := Aside0.mk (mxo_pos (l0.drop 48) (fun x hx => (octs_get (octs_drop HO.out 48) hx).1))
        clear hC3 hA3 hmx hl3
        go_wp2_with fail
        refine HMX.out.mono ?_
        clear HMX hcut3
        rintro e w6 ⟨rfl, rfl⟩
        have h := H.out
        clear H
        by_cases hz : (l0.drop 48).any (fun x => decide (x ≠ 0)) = true
        · rw [if_pos hz] at h
          simp only [Prod.mk.injEq] at h
          obtain ⟨h1, h2, h3, h4, h5, h6⟩ := h
          subst h1 h2 h3 h4 h5 h6
          have b3 : decide (0 < mxo (l0.drop 48)) = true := by rw [HMP.out]; exact hz
          clear hz HMP
          have z0 : w6.cell? ⟨w.heap.size, 0, none⟩ = some (.int .i64 0) := (blk_cell BKR5.out 0).trans rfl
          have f0 := blk_frozen BKR5.out 0
          have z1 : w6.cell? ⟨w.heap.size, 1, none⟩ = some (.int .i64 0) := (blk_cell BKR5.out 1).trans rfl
          have f1 := blk_frozen BKR5.out 1
          have z2 : w6.cell? ⟨w.heap.size, 2, none⟩ = some (.int .i64 0) := (blk_cell BKR5.out 2).trans rfl
          have f2 := blk_frozen BKR5.out 2
          have z3 : w6.cell? ⟨w.heap.size, 3, none⟩ = some (.int .i64 0) := (blk_cell BKR5.out 3).trans rfl
          have f3 := blk_frozen BKR5.out 3
          have z4 : w6.cell? ⟨w.heap.size, 4, none⟩ = some (.int .i64 0) := (blk_cell BKR5.out 4).trans rfl
          have f4 := blk_frozen BKR5.out 4
          go_wp2_with fail
          refine bodyPost_ret (results_ct rfl _ _ w.heap.size 33 #[.int .i64 0, .int .i64 0, .int .i64 0, .int .i64 0, .int .i64 0] (0, 0) _ rfl (five_put BKR5.out) Try.underlying33 rfl (by kernel_rfl)) rfl ?_
          exact ⟨rfl, five_below HB5.out (Nat.le_refl _)⟩
        · rw [if_neg hz] at h
          have H := Aside0.mk h
          have b3 : decide (0 < mxo (l0.drop 48)) = false := by rw [HMP.out]; simpa using hz
          clear h hz HMP
          go_wp2_with fail
          refine (fields_any _ _).mono ?_
          rintro e w7 ⟨rfl, hb7⟩
          obtain ⟨go, hgo⟩ : ∃ go, go = w6.heap.size := ⟨_, rfl⟩
          have hal := below_alloc (Below.refl w6.heap.size w6) (.cells #[.int .i64 0, .int .i64 0, .int .i64 0, .int .i64 0, .int .i64 0] 33)
          have BKO7 := Aside0.mk (show w7.heap[go]? = some (.cells (outC l0 0) 33 (0, 0)) from by rw [hgo]; exact blk_below (blk_new _ _) hb7)
          have BKR7 := Aside0.mk (blk_below (blk_below BKR5.out hal) hb7)
          have HB7 := Aside0.mk (below_step (below_step HB5.out hal) hb7)
          have NG := Aside0.mk (show w.heap.size ≠ go from by have := blk_lt BKR5.out; omega)
          have GG := Aside0.mk (show w.heap.size ≤ go from by rw [hgo]; exact HB5.out.size)
          rw [← hgo]
          clear hgo hal hb7 BKR5 HB5 b3
          unfold ptrs
          go_wp2_with fail
          go_loopw [40] (fun i wr => ∃ k : Nat, k ≤ 5 ∧ i = .int .i64 k ∧ Hid (∀ j, j < k → numAt l0 j ≤ 1099511627776) ∧ Hid (wr.heap[w.heap.size]? = some (.cells #[.int .i64 0, .int .i64 0, .int .i64 0, .int .i64 0, .int .i64 0] 33 (0, 0))) ∧ Hid (wr.heap[go]? = some (.cells (outC l0 k) 33 (0, 0))) ∧ Hid (Below w.heap.size w wr)) (fun i _ => 5 - (intOf i).toNat)
          case atStart => exact ⟨0, by omega, rfl, fun j hj => absurd hj (by omega), BKR7.out, BKO7.out, HB7.out⟩
          case round =>
            clear BKR7 BKO7 HB7
            obtain ⟨k, hk, rfl, HN, BKR, BKO, HB⟩ := hrel
            by_cases hlt : k < 5
            · rcases (by omega : k = 0 ∨ k = 1 ∨ k = 2 ∨ k = 3 ∨ k = 4) with rfl | rfl | rfl | rfl | rfl
              · have hix : ∀ W : World, (Instr.index 103 (.agg #[.pointer (some ⟨go, 0, none⟩), .pointer (some ⟨go, 1, none⟩), .pointer (some ⟨go, 2, none⟩), .pointer (some ⟨go, 3, none⟩), .pointer (some ⟨go, 4, none⟩)]) (.int .i64 0)).run Try.prog W = .ok (.pointer (some ⟨go, 0, none⟩)) W := ptrs_at go 0 (by omega)
                obtain ⟨Ak, hAk⟩ : ∃ Ak, Ak = (if c0 = 4 then A0 else A0.map (·.add (4 * 1))) := ⟨_, rfl⟩
                have hcutA : ∀ W : World, (Instr.slice 50 (.slice A0 64 c0) (some (.int .i64 4)) none none).run Try.prog W = .ok (.slice Ak 60 (c0 - 4)) W := by rw [hAk]; exact cut_from (P := Try.prog) 50 5 .i64 Try.underlying50 hi0 1 hsz0 A0 64 c0 4 (by omega) (by omega)
                have hcutB : ∀ W : World, (Instr.slice 50 (.slice Ak 60 (c0 - 4)) none (some (.int .i64 8)) none).run Try.prog W = .ok (.slice Ak 8 (c0 - 4)) W := cut_to (P := Try.prog) 50 5 .i64 Try.underlying50 hi0 Ak 60 (c0 - 4) 8 (by omega) (by omega) (by omega)
                have hCk := Kd.C_drop (m := 4) (c := c0) (show Kd.C (Kd.int .u8) wr A0 l0.length l0 from by rw [HL.out]; exact Kd.C_below HR.out HB) (by rw [HL.out]; omega) (by rw [HL.out]; exact hc0)
                have hCs := Kd.C_take (m := 8) hCk (by rw [List.length_drop, HL.out]; decide)
                have hls := seg_length HL.out (show 0 < 5 by omega)
                have hgk := octets_Get.calls 20 Ak (c0 - 4) ((l0.drop (4 + 8 * 0)).take 8) _ _ wr (by rw [hAk]; exact hCs) (by rw [hls]; omega) (get_f (octs_take (octs_drop HO.out _) 8) (by rw [hls]; decide) (by rw [hls]; decide))
                rw [hls] at hgk
                have HGK := Aside0.mk (show Calls Try.prog 65 #[.slice Ak 8 (c0 - 4)] wr fun e w' => e = .returned (.tuple #[.int .u64 (numAt l0 0 : Nat), .int .i64 0]) ∧ Drawn0 wr w' from hgk)
                have hx64 := numAt_lt HO.out 0
                clear hAk hCk hCs hls hgk
                go_wp2_with fail
                refine HGK.out.mono ?_
                clear HGK hcutA hcutB
                rintro e w8 ⟨rfl, ⟨⟨m8, rfl⟩⟩⟩
                obtain ⟨W8, hW8⟩ : ∃ W8, W8 = wr.drewN m8 := ⟨_, rfl⟩
                have hb8 : Below wr.heap.size wr W8 := by rw [hW8]; exact pw_below_drewN (Below.refl _ _) _
                have BKR8 := Aside0.mk (blk_below BKR hb8)
                have BKO8 := Aside0.mk (blk_below BKO hb8)
                have HB8 := Aside0.mk (below_step HB hb8)
                rw [← hW8]
                clear hW8 hb8 BKR BKO HB
                by_cases hbig : 1099511627776 < numAt l0 0
                · have h := H.out
                  rw [if_pos (big_at (by omega) hbig)] at h
                  simp only [Prod.mk.injEq] at h
                  obtain ⟨h1, h2, h3, h4, h5, h6⟩ := h
                  subst h1 h2 h3 h4 h5 h6
                  have b3 : decide (1099511627776 < ((numAt l0 0 : Nat) : Int)) = true := decide_eq_true (by omega)
                  clear hbig
                  have z0 : W8.cell? ⟨w.heap.size, 0, none⟩ = some (.int .i64 0) := (blk_cell BKR8.out 0).trans rfl
                  have f0 := blk_frozen BKR8.out 0
                  have z1 : W8.cell? ⟨w.heap.size, 1, none⟩ = some (.int .i64 0) := (blk_cell BKR8.out 1).trans rfl
                  have f1 := blk_frozen BKR8.out 1
                  have z2 : W8.cell? ⟨w.heap.size, 2, none⟩ = some (.int .i64 0) := (blk_cell BKR8.out 2).trans rfl
                  have f2 := blk_frozen BKR8.out 2
                  have z3 : W8.cell? ⟨w.heap.size, 3, none⟩ = some (.int .i64 0) := (blk_cell BKR8.out 3).trans rfl
                  have f3 := blk_frozen BKR8.out 3
                  have z4 : W8.cell? ⟨w.heap.size, 4, none⟩ = some (.int .i64 0) := (blk_cell BKR8.out 4).trans rfl
                  have f4 := blk_frozen BKR8.out 4
                  go_wp2_with fail
                  refine bodyPost_ret (results_ct rfl _ _ w.heap.size 33 #[.int .i64 0, .int .i64 0, .int .i64 0, .int .i64 0, .int .i64 0] (0, 0) _ rfl (five_put BKR8.out) Try.underlying33 rfl (by kernel_rfl)) rfl ?_
                  exact ⟨rfl, five_below HB8.out (Nat.le_refl _)⟩
                · have b3 : decide (1099511627776 < ((numAt l0 0 : Nat) : Int)) = false := decide_eq_false (by omega)
                  have hle : ((numAt l0 0 : Nat) : Int) ≤ 1099511627776 := by omega
                  have HN2 := Lib.hid (show ∀ j, j < 1 → numAt l0 j ≤ 1099511627776 from fun j hj => by
                    rcases (by omega : j < 0 ∨ j = 0) with h_ | h_
                    · exact (show ∀ j, j < 0 → numAt l0 j ≤ 1099511627776 from HN) j h_
                    · rw [h_]; omega)
                  have zk : W8.cell? ⟨go, 0, none⟩ = some (.int .i64 0) := (blk_cell BKO8.out 0).trans rfl
                  have fk := blk_frozen BKO8.out 0
                  clear hbig HN
                  go_wp2_with fail
                  go_roundw
                  case rel => exact ⟨1, by omega, rfl, HN2, Lib.hid (blk_far BKR8.out (p := ⟨go, 0, none⟩) NG.out _), Lib.hid (blk_put BKO8.out 0 _ rfl), Lib.hid (HB8.out.setCell (p := ⟨go, 0, none⟩) GG.out _)⟩
                  case measure => simp [intOf]
              · have hix : ∀ W : World, (Instr.index 103 (.agg #[.pointer (some ⟨go, 0, none⟩), .pointer (some ⟨go, 1, none⟩), .pointer (some ⟨go, 2, none⟩), .pointer (some ⟨go, 3, none⟩), .pointer (some ⟨go, 4, none⟩)]) (.int .i64 1)).run Try.prog W = .ok (.pointer (some ⟨go, 1, none⟩)) W := ptrs_at go 1 (by omega)
                obtain ⟨Ak, hAk⟩ : ∃ Ak, Ak = (if c0 = 12 then A0 else A0.map (·.add (12 * 1))) := ⟨_, rfl⟩
                have hcutA : ∀ W : World, (Instr.slice 50 (.slice A0 64 c0) (some (.int .i64 12)) none none).run Try.prog W = .ok (.slice Ak 52 (c0 - 12)) W := by rw [hAk]; exact cut_from (P := Try.prog) 50 5 .i64 Try.underlying50 hi0 1 hsz0 A0 64 c0 12 (by omega) (by omega)
                have hcutB : ∀ W : World, (Instr.slice 50 (.slice Ak 52 (c0 - 12)) none (some (.int .i64 8)) none).run Try.prog W = .ok (.slice Ak 8 (c0 - 12)) W := cut_to (P := Try.prog) 50 5 .i64 Try.underlying50 hi0 Ak 52 (c0 - 12) 8 (by omega) (by omega) (by omega)
                have hCk := Kd.C_drop (m := 12) (c := c0) (show Kd.C (Kd.int .u8) wr A0 l0.length l0 from by rw [HL.out]; exact Kd.C_below HR.out HB) (by rw [HL.out]; omega) (by rw [HL.out]; exact hc0)
                have hCs := Kd.C_take (m := 8) hCk (by rw [List.length_drop, HL.out]; decide)
                have hls := seg_length HL.out (show 1 < 5 by omega)
                have hgk := octets_Get.calls 20 Ak (c0 - 12) ((l0.drop (4 + 8 * 1)).take 8) _ _ wr (by rw [hAk]; exact hCs) (by rw [hls]; omega) (get_f (octs_take (octs_drop HO.out _) 8) (by rw [hls]; decide) (by rw [hls]; decide))
                rw [hls] at hgk
                have HGK := Aside0.mk (show Calls Try.prog 65 #[.slice Ak 8 (c0 - 12)] wr fun e w' => e = .returned (.tuple #[.int .u64 (numAt l0 1 : Nat), .int .i64 0]) ∧ Drawn0 wr w' from hgk)
                have hx64 := numAt_lt HO.out 1
                clear hAk hCk hCs hls hgk
                go_wp2_with fail
                refine HGK.out.mono ?_
                clear HGK hcutA hcutB
                rintro e w8 ⟨rfl, ⟨⟨m8, rfl⟩⟩⟩
                obtain ⟨W8, hW8⟩ : ∃ W8, W8 = wr.drewN m8 := ⟨_, rfl⟩
                have hb8 : Below wr.heap.size wr W8 := by rw [hW8]; exact pw_below_drewN (Below.refl _ _) _
                have BKR8 := Aside0.mk (blk_below BKR hb8)
                have BKO8 := Aside0.mk (blk_below BKO hb8)
                have HB8 := Aside0.mk (below_step HB hb8)
                rw [← hW8]
                clear hW8 hb8 BKR BKO HB
                by_cases hbig : 1099511627776 < numAt l0 1
                · have h := H.out
                  rw [if_pos (big_at (by omega) hbig)] at h
                  simp only [Prod.mk.injEq] at h
                  obtain ⟨h1, h2, h3, h4, h5, h6⟩ := h
                  subst h1 h2 h3 h4 h5 h6
                  have b3 : decide (1099511627776 < ((numAt l0 1 : Nat) : Int)) = true := decide_eq_true (by omega)
                  clear hbig
                  have z0 : W8.cell? ⟨w.heap.size, 0, none⟩ = some (.int .i64 0) := (blk_cell BKR8.out 0).trans rfl
                  have f0 := blk_frozen BKR8.out 0
                  have z1 : W8.cell? ⟨w.heap.size, 1, none⟩ = some (.int .i64 0) := (blk_cell BKR8.out 1).trans rfl
                  have f1 := blk_frozen BKR8.out 1
                  have z2 : W8.cell? ⟨w.heap.size, 2, none⟩ = some (.int .i64 0) := (blk_cell BKR8.out 2).trans rfl
                  have f2 := blk_frozen BKR8.out 2
                  have z3 : W8.cell? ⟨w.heap.size, 3, none⟩ = some (.int .i64 0) := (blk_cell BKR8.out 3).trans rfl
                  have f3 := blk_frozen BKR8.out 3
                  have z4 : W8.cell? ⟨w.heap.size, 4, none⟩ = some (.int .i64 0) := (blk_cell BKR8.out 4).trans rfl
                  have f4 := blk_frozen BKR8.out 4
                  go_wp2_with fail
                  refine bodyPost_ret (results_ct rfl _ _ w.heap.size 33 #[.int .i64 0, .int .i64 0, .int .i64 0, .int .i64 0, .int .i64 0] (0, 0) _ rfl (five_put BKR8.out) Try.underlying33 rfl (by kernel_rfl)) rfl ?_
                  exact ⟨rfl, five_below HB8.out (Nat.le_refl _)⟩
                · have b3 : decide (1099511627776 < ((numAt l0 1 : Nat) : Int)) = false := decide_eq_false (by omega)
                  have hle : ((numAt l0 1 : Nat) : Int) ≤ 1099511627776 := by omega
                  have HN2 := Lib.hid (show ∀ j, j < 2 → numAt l0 j ≤ 1099511627776 from fun j hj => by
                    rcases (by omega : j < 1 ∨ j = 1) with h_ | h_
                    · exact (show ∀ j, j < 1 → numAt l0 j ≤ 1099511627776 from HN) j h_
                    · rw [h_]; omega)
                  have zk : W8.cell? ⟨go, 1, none⟩ = some (.int .i64 0) := (blk_cell BKO8.out 1).trans rfl
                  have fk := blk_frozen BKO8.out 1
                  clear hbig HN
                  go_wp2_with fail
                  go_roundw
                  case rel => exact ⟨2, by omega, rfl, HN2, Lib.hid (blk_far BKR8.out (p := ⟨go, 1, none⟩) NG.out _), Lib.hid (blk_put BKO8.out 1 _ rfl), Lib.hid (HB8.out.setCell (p := ⟨go, 1, none⟩) GG.out _)⟩
                  case measure => simp [intOf]
              · have hix : ∀ W : World, (Instr.index 103 (.agg #[.pointer (some ⟨go, 0, none⟩), .pointer (some ⟨go, 1, none⟩), .pointer (some ⟨go, 2, none⟩), .pointer (some ⟨go, 3, none⟩), .pointer (some ⟨go, 4, none⟩)]) (.int .i64 2)).run Try.prog W = .ok (.pointer (some ⟨go, 2, none⟩)) W := ptrs_at go 2 (by omega)
                obtain ⟨Ak, hAk⟩ : ∃ Ak, Ak = (if c0 = 20 then A0 else A0.map (·.add (20 * 1))) := ⟨_, rfl⟩
                have hcutA : ∀ W : World, (Instr.slice 50 (.slice A0 64 c0) (some (.int .i64 20)) none none).run Try.prog W = .ok (.slice Ak 44 (c0 - 20)) W := by rw [hAk]; exact cut_from (P := Try.prog) 50 5 .i64 Try.underlying50 hi0 1 hsz0 A0 64 c0 20 (by omega) (by omega)
                have hcutB : ∀ W : World, (Instr.slice 50 (.slice Ak 44 (c0 - 20)) none (some (.int .i64 8)) none).run Try.prog W = .ok (.slice Ak 8 (c0 - 20)) W := cut_to (P := Try.prog) 50 5 .i64 Try.underlying50 hi0 Ak 44 (c0 - 20) 8 (by omega) (by omega) (by omega)
                have hCk := Kd.C_drop (m := 20) (c := c0) (show Kd.C (Kd.int .u8) wr A0 l0.length l0 from by rw [HL.out]; exact Kd.C_below HR.out HB) (by rw [HL.out]; omega) (by rw [HL.out]; exact hc0)
                have hCs := Kd.C_take (m := 8) hCk (by rw [List.length_drop, HL.out]; decide)
                have hls := seg_length HL.out (show 2 < 5 by omega)
                have hgk := octets_Get.calls 20 Ak (c0 - 20) ((l0.drop (4 + 8 * 2)).take 8) _ _ wr (by rw [hAk]; exact hCs) (by rw [hls]; omega) (get_f (octs_take (octs_drop HO.out _) 8) (by rw [hls]; decide) (by rw [hls]; decide))
                rw [hls] at hgk
                have HGK := Aside0.mk (show Calls Try.prog 65 #[.slice Ak 8 (c0 - 20)] wr fun e w' => e = .returned (.tuple #[.int .u64 (numAt l0 2 : Nat), .int .i64 0]) ∧ Drawn0 wr w' from hgk)
                have hx64 := numAt_lt HO.out 2
                clear hAk hCk hCs hls hgk
                go_wp2_with fail
                refine HGK.out.mono ?_
                clear HGK hcutA hcutB
                rintro e w8 ⟨rfl, ⟨⟨m8, rfl⟩⟩⟩
                obtain ⟨W8, hW8⟩ : ∃ W8, W8 = wr.drewN m8 := ⟨_, rfl⟩
                have hb8 : Below wr.heap.size wr W8 := by rw [hW8]; exact pw_below_drewN (Below.refl _ _) _
                have BKR8 := Aside0.mk (blk_below BKR hb8)
                have BKO8 := Aside0.mk (blk_below BKO hb8)
                have HB8 := Aside0.mk (below_step HB hb8)
                rw [← hW8]
                clear hW8 hb8 BKR BKO HB
                by_cases hbig : 1099511627776 < numAt l0 2
                · have h := H.out
                  rw [if_pos (big_at (by omega) hbig)] at h
                  simp only [Prod.mk.injEq] at h
                  obtain ⟨h1, h2, h3, h4, h5, h6⟩ := h
                  subst h1 h2 h3 h4 h5 h6
                  have b3 : decide (1099511627776 < ((numAt l0 2 : Nat) : Int)) = true := decide_eq_true (by omega)
                  clear hbig
                  have z0 : W8.cell? ⟨w.heap.size, 0, none⟩ = some (.int .i64 0) := (blk_cell BKR8.out 0).trans rfl
                  have f0 := blk_frozen BKR8.out 0
                  have z1 : W8.cell? ⟨w.heap.size, 1, none⟩ = some (.int .i64 0) := (blk_cell BKR8.out 1).trans rfl
                  have f1 := blk_frozen BKR8.out 1
                  have z2 : W8.cell? ⟨w.heap.size, 2, none⟩ = some (.int .i64 0) := (blk_cell BKR8.out 2).trans rfl
                  have f2 := blk_frozen BKR8.out 2
                  have z3 : W8.cell? ⟨w.heap.size, 3, none⟩ = some (.int .i64 0) := (blk_cell BKR8.out 3).trans rfl
                  have f3 := blk_frozen BKR8.out 3
                  have z4 : W8.cell? ⟨w.heap.size, 4, none⟩ = some (.int .i64 0) := (blk_cell BKR8.out 4).trans rfl
                  have f4 := blk_frozen BKR8.out 4
                  go_wp2_with fail
                  refine bodyPost_ret (results_ct rfl _ _ w.heap.size 33 #[.int .i64 0, .int .i64 0, .int .i64 0, .int .i64 0, .int .i64 0] (0, 0) _ rfl (five_put BKR8.out) Try.underlying33 rfl (by kernel_rfl)) rfl ?_
                  exact ⟨rfl, five_below HB8.out (Nat.le_refl _)⟩
                · have b3 : decide (1099511627776 < ((numAt l0 2 : Nat) : Int)) = false := decide_eq_false (by omega)
                  have hle : ((numAt l0 2 : Nat) : Int) ≤ 1099511627776 := by omega
                  have HN2 := Lib.hid (show ∀ j, j < 3 → numAt l0 j ≤ 1099511627776 from fun j hj => by
                    rcases (by omega : j < 2 ∨ j = 2) with h_ | h_
                    · exact (show ∀ j, j < 2 → numAt l0 j ≤ 1099511627776 from HN) j h_
                    · rw [h_]; omega)
                  have zk : W8.cell? ⟨go, 2, none⟩ = some (.int .i64 0) := (blk_cell BKO8.out 2).trans rfl
                  have fk := blk_frozen BKO8.out 2
                  clear hbig HN
                  go_wp2_with fail
                  go_roundw
                  case rel => exact ⟨3, by omega, rfl, HN2, Lib.hid (blk_far BKR8.out (p := ⟨go, 2, none⟩) NG.out _), Lib.hid (blk_put BKO8.out 2 _ rfl), Lib.hid (HB8.out.setCell (p := ⟨go, 2, none⟩) GG.out _)⟩
                  case measure => simp [intOf]
              · have hix : ∀ W : World, (Instr.index 103 (.agg #[.pointer (some ⟨go, 0, none⟩), .pointer (some ⟨go, 1, none⟩), .pointer (some ⟨go, 2, none⟩), .pointer (some ⟨go, 3, none⟩), .pointer (some ⟨go, 4, none⟩)]) (.int .i64 3)).run Try.prog W = .ok (.pointer (some ⟨go, 3, none⟩)) W := ptrs_at go 3 (by omega)
                obtain ⟨Ak, hAk⟩ : ∃ Ak, Ak = (if c0 = 28 then A0 else A0.map (·.add (28 * 1))) := ⟨_, rfl⟩
                have hcutA : ∀ W : World, (Instr.slice 50 (.slice A0 64 c0) (some (.int .i64 28)) none none).run Try.prog W = .ok (.slice Ak 36 (c0 - 28)) W := by rw [hAk]; exact cut_from (P := Try.prog) 50 5 .i64 Try.underlying50 hi0 1 hsz0 A0 64 c0 28 (by omega) (by omega)
                have hcutB : ∀ W : World, (Instr.slice 50 (.slice Ak 36 (c0 - 28)) none (some (.int .i64 8)) none).run Try.prog W = .ok (.slice Ak 8 (c0 - 28)) W := cut_to (P := Try.prog) 50 5 .i64 Try.underlying50 hi0 Ak 36 (c0 - 28) 8 (by omega) (by omega) (by omega)
                have hCk := Kd.C_drop (m := 28) (c := c0) (show Kd.C (Kd.int .u8) wr A0 l0.length l0 from by rw [HL.out]; exact Kd.C_below HR.out HB) (by rw [HL.out]; omega) (by rw [HL.out]; exact hc0)
                have hCs := Kd.C_take (m := 8) hCk (by rw [List.length_drop, HL.out]; decide)
                have hls := seg_length HL.out (show 3 < 5 by omega)
                have hgk := octets_Get.calls 20 Ak (c0 - 28) ((l0.drop (4 + 8 * 3)).take 8) _ _ wr (by rw [hAk]; exact hCs) (by rw [hls]; omega) (get_f (octs_take (octs_drop HO.out _) 8) (by rw [hls]; decide) (by rw [hls]; decide))
                rw [hls] at hgk
                have HGK := Aside0.mk (show Calls Try.prog 65 #[.slice Ak 8 (c0 - 28)] wr fun e w' => e = .returned (.tuple #[.int .u64 (numAt l0 3 : Nat), .int .i64 0]) ∧ Drawn0 wr w' from hgk)
                have hx64 := numAt_lt HO.out 3
                clear hAk hCk hCs hls hgk
                go_wp2_with fail
                refine HGK.out.mono ?_
                clear HGK hcutA hcutB
                rintro e w8 ⟨rfl, ⟨⟨m8, rfl⟩⟩⟩
                obtain ⟨W8, hW8⟩ : ∃ W8, W8 = wr.drewN m8 := ⟨_, rfl⟩
                have hb8 : Below wr.heap.size wr W8 := by rw [hW8]; exact pw_below_drewN (Below.refl _ _) _
                have BKR8 := Aside0.mk (blk_below BKR hb8)
                have BKO8 := Aside0.mk (blk_below BKO hb8)
                have HB8 := Aside0.mk (below_step HB hb8)
                rw [← hW8]
                clear hW8 hb8 BKR BKO HB
                by_cases hbig : 1099511627776 < numAt l0 3
                · have h := H.out
                  rw [if_pos (big_at (by omega) hbig)] at h
                  simp only [Prod.mk.injEq] at h
                  obtain ⟨h1, h2, h3, h4, h5, h6⟩ := h
                  subst h1 h2 h3 h4 h5 h6
                  have b3 : decide (1099511627776 < ((numAt l0 3 : Nat) : Int)) = true := decide_eq_true (by omega)
                  clear hbig
                  have z0 : W8.cell? ⟨w.heap.size, 0, none⟩ = some (.int .i64 0) := (blk_cell BKR8.out 0).trans rfl
                  have f0 := blk_frozen BKR8.out 0
                  have z1 : W8.cell? ⟨w.heap.size, 1, none⟩ = some (.int .i64 0) := (blk_cell BKR8.out 1).trans rfl
                  have f1 := blk_frozen BKR8.out 1
                  have z2 : W8.cell? ⟨w.heap.size, 2, none⟩ = some (.int .i64 0) := (blk_cell BKR8.out 2).trans rfl
                  have f2 := blk_frozen BKR8.out 2
                  have z3 : W8.cell? ⟨w.heap.size, 3, none⟩ = some (.int .i64 0) := (blk_cell BKR8.out 3).trans rfl
                  have f3 := blk_frozen BKR8.out 3
                  have z4 : W8.cell? ⟨w.heap.size, 4, none⟩ = some (.int .i64 0) := (blk_cell BKR8.out 4).trans rfl
                  have f4 := blk_frozen BKR8.out 4
                  go_wp2_with fail
                  refine bodyPost_ret (results_ct rfl _ _ w.heap.size 33 #[.int .i64 0, .int .i64 0, .int .i64 0, .int .i64 0, .int .i64 0] (0, 0) _ rfl (five_put BKR8.out) Try.underlying33 rfl (by kernel_rfl)) rfl ?_
                  exact ⟨rfl, five_below HB8.out (Nat.le_refl _)⟩
                · have b3 : decide (1099511627776 < ((numAt l0 3 : Nat) : Int)) = false := decide_eq_false (by omega)
                  have hle : ((numAt l0 3 : Nat) : Int) ≤ 1099511627776 := by omega
                  have HN2 := Lib.hid (show ∀ j, j < 4 → numAt l0 j ≤ 1099511627776 from fun j hj => by
                    rcases (by omega : j < 3 ∨ j = 3) with h_ | h_
                    · exact (show ∀ j, j < 3 → numAt l0 j ≤ 1099511627776 from HN) j h_
                    · rw [h_]; omega)
                  have zk : W8.cell? ⟨go, 3, none⟩ = some (.int .i64 0) := (blk_cell BKO8.out 3).trans rfl
                  have fk := blk_frozen BKO8.out 3
                  clear hbig HN
                  go_wp2_with fail
                  go_roundw
                  case rel => exact ⟨4, by omega, rfl, HN2, Lib.hid (blk_far BKR8.out (p := ⟨go, 3, none⟩) NG.out _), Lib.hid (blk_put BKO8.out 3 _ rfl), Lib.hid (HB8.out.setCell (p := ⟨go, 3, none⟩) GG.out _)⟩
                  case measure => simp [intOf]
              · have hix : ∀ W : World, (Instr.index 103 (.agg #[.pointer (some ⟨go, 0, none⟩), .pointer (some ⟨go, 1, none⟩), .pointer (some ⟨go, 2, none⟩), .pointer (some ⟨go, 3, none⟩), .pointer (some ⟨go, 4, none⟩)]) (.int .i64 4)).run Try.prog W = .ok (.pointer (some ⟨go, 4, none⟩)) W := ptrs_at go 4 (by omega)
                obtain ⟨Ak, hAk⟩ : ∃ Ak, Ak = (if c0 = 36 then A0 else A0.map (·.add (36 * 1))) := ⟨_, rfl⟩
                have hcutA : ∀ W : World, (Instr.slice 50 (.slice A0 64 c0) (some (.int .i64 36)) none none).run Try.prog W = .ok (.slice Ak 28 (c0 - 36)) W := by rw [hAk]; exact cut_from (P := Try.prog) 50 5 .i64 Try.underlying50 hi0 1 hsz0 A0 64 c0 36 (by omega) (by omega)
                have hcutB : ∀ W : World, (Instr.slice 50 (.slice Ak 28 (c0 - 36)) none (some (.int .i64 8)) none).run Try.prog W = .ok (.slice Ak 8 (c0 - 36)) W := cut_to (P := Try.prog) 50 5 .i64 Try.underlying50 hi0 Ak 28 (c0 - 36) 8 (by omega) (by omega) (by omega)
                have hCk := Kd.C_drop (m := 36) (c := c0) (show Kd.C (Kd.int .u8) wr A0 l0.length l0 from by rw [HL.out]; exact Kd.C_below HR.out HB) (by rw [HL.out]; omega) (by rw [HL.out]; exact hc0)
                have hCs := Kd.C_take (m := 8) hCk (by rw [List.length_drop, HL.out]; decide)
                have hls := seg_length HL.out (show 4 < 5 by omega)
                have hgk := octets_Get.calls 20 Ak (c0 - 36) ((l0.drop (4 + 8 * 4)).take 8) _ _ wr (by rw [hAk]; exact hCs) (by rw [hls]; omega) (get_f (octs_take (octs_drop HO.out _) 8) (by rw [hls]; decide) (by rw [hls]; decide))
                rw [hls] at hgk
                have HGK := Aside0.mk (show Calls Try.prog 65 #[.slice Ak 8 (c0 - 36)] wr fun e w' => e = .returned (.tuple #[.int .u64 (numAt l0 4 : Nat), .int .i64 0]) ∧ Drawn0 wr w' from hgk)
                have hx64 := numAt_lt HO.out 4
                clear hAk hCk hCs hls hgk
                go_wp2_with fail
                refine HGK.out.mono ?_
                clear HGK hcutA hcutB
                rintro e w8 ⟨rfl, ⟨⟨m8, rfl⟩⟩⟩
                obtain ⟨W8, hW8⟩ : ∃ W8, W8 = wr.drewN m8 := ⟨_, rfl⟩
                have hb8 : Below wr.heap.size wr W8 := by rw [hW8]; exact pw_below_drewN (Below.refl _ _) _
                have BKR8 := Aside0.mk (blk_below BKR hb8)
                have BKO8 := Aside0.mk (blk_below BKO hb8)
                have HB8 := Aside0.mk (below_step HB hb8)
                rw [← hW8]
                clear hW8 hb8 BKR BKO HB
                by_cases hbig : 1099511627776 < numAt l0 4
                · have h := H.out
                  rw [if_pos (big_at (by omega) hbig)] at h
                  simp only [Prod.mk.injEq] at h
                  obtain ⟨h1, h2, h3, h4, h5, h6⟩ := h
                  subst h1 h2 h3 h4 h5 h6
                  have b3 : decide (1099511627776 < ((numAt l0 4 : Nat) : Int)) = true := decide_eq_true (by omega)
                  clear hbig
                  have z0 : W8.cell? ⟨w.heap.size, 0, none⟩ = some (.int .i64 0) := (blk_cell BKR8.out 0).trans rfl
                  have f0 := blk_frozen BKR8.out 0
                  have z1 : W8.cell? ⟨w.heap.size, 1, none⟩ = some (.int .i64 0) := (blk_cell BKR8.out 1).trans rfl
                  have f1 := blk_frozen BKR8.out 1
                  have z2 : W8.cell? ⟨w.heap.size, 2, none⟩ = some (.int .i64 0) := (blk_cell BKR8.out 2).trans rfl
                  have f2 := blk_frozen BKR8.out 2
                  have z3 : W8.cell? ⟨w.heap.size, 3, none⟩ = some (.int .i64 0) := (blk_cell BKR8.out 3).trans rfl
                  have f3 := blk_frozen BKR8.out 3
                  have z4 : W8.cell? ⟨w.heap.size, 4, none⟩ = some (.int .i64 0) := (blk_cell BKR8.out 4).trans rfl
                  have f4 := blk_frozen BKR8.out 4
                  go_wp2_with fail
                  refine bodyPost_ret (results_ct rfl _ _ w.heap.size 33 #[.int .i64 0, .int .i64 0, .int .i64 0, .int .i64 0, .int .i64 0] (0, 0) _ rfl (five_put BKR8.out) Try.underlying33 rfl (by kernel_rfl)) rfl ?_
                  exact ⟨rfl, five_below HB8.out (Nat.le_refl _)⟩
                · have b3 : decide (1099511627776 < ((numAt l0 4 : Nat) : Int)) = false := decide_eq_false (by omega)
                  have hle : ((numAt l0 4 : Nat) : Int) ≤ 1099511627776 := by omega
                  have HN2 := Lib.hid (show ∀ j, j < 5 → numAt l0 j ≤ 1099511627776 from fun j hj => by
                    rcases (by omega : j < 4 ∨ j = 4) with h_ | h_
                    · exact (show ∀ j, j < 4 → numAt l0 j ≤ 1099511627776 from HN) j h_
                    · rw [h_]; omega)
                  have zk : W8.cell? ⟨go, 4, none⟩ = some (.int .i64 0) := (blk_cell BKO8.out 4).trans rfl
                  have fk := blk_frozen BKO8.out 4
                  clear hbig HN
                  go_wp2_with fail
                  go_roundw
                  case rel => exact ⟨5, by omega, rfl, HN2, Lib.hid (blk_far BKR8.out (p := ⟨go, 4, none⟩) NG.out _), Lib.hid (blk_put BKO8.out 4 _ rfl), Lib.hid (HB8.out.setCell (p := ⟨go, 4, none⟩) GG.out _)⟩
                  case measure => simp [intOf]
            · obtain rfl : k = 5 := by omega
              have h := H.out
              rw [big_no HN, if_neg (by decide)] at h
              simp only [Prod.mk.injEq] at h
              obtain ⟨h1, h2, h3, h4, h5, h6⟩ := h
              subst h1 h2 h3 h4 h5 h6
              have y0 : wr.cell? ⟨go, 0, none⟩ = some (.int .i64 (numAt l0 0 : Nat)) := (blk_cell BKO 0).trans rfl
              have y1 : wr.cell? ⟨go, 1, none⟩ = some (.int .i64 (numAt l0 1 : Nat)) := (blk_cell BKO 1).trans rfl
              have y2 : wr.cell? ⟨go, 2, none⟩ = some (.int .i64 (numAt l0 2 : Nat)) := (blk_cell BKO 2).trans rfl
              have y3 : wr.cell? ⟨go, 3, none⟩ = some (.int .i64 (numAt l0 3 : Nat)) := (blk_cell BKO 3).trans rfl
              have y4 : wr.cell? ⟨go, 4, none⟩ = some (.int .i64 (numAt l0 4 : Nat)) := (blk_cell BKO 4).trans rfl
              have z0 : wr.cell? ⟨w.heap.size, 0, none⟩ = some (.int .i64 0) := (blk_cell BKR 0).trans rfl
              have f0 := blk_frozen BKR 0
              have z1 : wr.cell? ⟨w.heap.size, 1, none⟩ = some (.int .i64 0) := (blk_cell BKR 1).trans rfl
              have f1 := blk_frozen BKR 1
              have z2 : wr.cell? ⟨w.heap.size, 2, none⟩ = some (.int .i64 0) := (blk_cell BKR 2).trans rfl
              have f2 := blk_frozen BKR 2
              have z3 : wr.cell? ⟨w.heap.size, 3, none⟩ = some (.int .i64 0) := (blk_cell BKR 3).trans rfl
              have f3 := blk_frozen BKR 3
              have z4 : wr.cell? ⟨w.heap.size, 4, none⟩ = some (.int .i64 0) := (blk_cell BKR 4).trans rfl
              have f4 := blk_frozen BKR 4
              have HB9 := Aside0.mk HB
              have BKR9 := Aside0.mk BKR
              clear HN BKO HB BKR H
              go_wp2_with fail
              refine bodyPost_ret (results_ct rfl _ _ w.heap.size 33 #[.int .i64 (numAt l0 0 : Nat), .int .i64 (numAt l0 1 : Nat), .int .i64 (numAt l0 2 : Nat), .int .i64 (numAt l0 3 : Nat), .int .i64 (numAt l0 4 : Nat)] (0, 0) _ rfl (five_put BKR9.out) Try.underlying33 rfl (by kernel_rfl)) rfl ?_
              exact ⟨rfl, five_below HB9.out (Nat.le_refl _)⟩
      · rw [if_neg hns] at h
        simp only [Prod.mk.injEq] at h
        obtain ⟨h1, h2, h3, h4, h5, h6⟩ := h
        subst h1 h2 h3 h4 h5 h6
        have b1 : ((nm : Int) != (sm : Int)) = true := by rw [bne_iff_ne]; omega
        have b2 : (nm != sm) = true := by rw [bne_iff_ne]; exact hns
        clear hns
        have z0 : w5.cell? ⟨w.heap.size, 0, none⟩ = some (.int .i64 0) := (blk_cell BKR5.out 0).trans rfl
        have f0 := blk_frozen BKR5.out 0
        have z1 : w5.cell? ⟨w.heap.size, 1, none⟩ = some (.int .i64 0) := (blk_cell BKR5.out 1).trans rfl
        have f1 := blk_frozen BKR5.out 1
        have z2 : w5.cell? ⟨w.heap.size, 2, none⟩ = some (.int .i64 0) := (blk_cell BKR5.out 2).trans rfl
        have f2 := blk_frozen BKR5.out 2
        have z3 : w5.cell? ⟨w.heap.size, 3, none⟩ = some (.int .i64 0) := (blk_cell BKR5.out 3).trans rfl
        have f3 := blk_frozen BKR5.out 3
        have z4 : w5.cell? ⟨w.heap.size, 4, none⟩ = some (.int .i64 0) := (blk_cell BKR5.out 4).trans rfl
        have f4 := blk_frozen BKR5.out 4
        go_wp2_with fail
        refine bodyPost_ret (results_ct rfl _ _ w.heap.size 33 #[.int .i64 0, .int .i64 0, .int .i64 0, .int .i64 0, .int .i64 0] (0, 0) _ rfl (five_put BKR5.out) Try.underlying33 rfl (by kernel_rfl)) rfl ?_
        exact ⟨rfl, five_below HB5.out (Nat.le_refl _)⟩
    · rw [if_neg hm] at h
      simp only [Prod.mk.injEq] at h
      obtain ⟨h1, h2, h3, h4, h5, h6⟩ := h
      subst h1 h2 h3 h4 h5 h6
      rw [show decide (l0.take markL.length = markL) = false from decide_eq_false hm]
      clear hm
      have z0 : w3.cell? ⟨w.heap.size, 0, none⟩ = some (.int .i64 0) := (blk_cell BKR.out 0).trans rfl
      have f0 := blk_frozen BKR.out 0
      have z1 : w3.cell? ⟨w.heap.size, 1, none⟩ = some (.int .i64 0) := (blk_cell BKR.out 1).trans rfl
      have f1 := blk_frozen BKR.out 1
      have z2 : w3.cell? ⟨w.heap.size, 2, none⟩ = some (.int .i64 0) := (blk_cell BKR.out 2).trans rfl
      have f2 := blk_frozen BKR.out 2
      have z3 : w3.cell? ⟨w.heap.size, 3, none⟩ = some (.int .i64 0) := (blk_cell BKR.out 3).trans rfl
      have f3 := blk_frozen BKR.out 3
      have z4 : w3.cell? ⟨w.heap.size, 4, none⟩ = some (.int .i64 0) := (blk_cell BKR.out 4).trans rfl
      have f4 := blk_frozen BKR.out 4
      go_wp2_with fail
      refine bodyPost_ret (results_ct rfl _ _ w.heap.size 33 #[.int .i64 0, .int .i64 0, .int .i64 0, .int .i64 0, .int .i64 0] (0, 0) _ rfl (five_put BKR.out) Try.underlying33 rfl (by kernel_rfl)) rfl ?_
      exact ⟨rfl, five_below HB.out (Nat.le_refl _)⟩
  · rw [if_neg hl] at h
    simp only [Prod.mk.injEq] at h
    obtain ⟨h1, h2, h3, h4, h5, h6⟩ := h
    subst h1 h2 h3 h4 h5 h6
    have hb : ((l0.length : Int) != 64) = true := by rw [bne_iff_ne]; omega
    clear hl
    go_enter Try.func35, Try.ntmps35
    go_wp2_with fail
    refine bodyPost_ret (results_ct rfl _ _ w.heap.size 33 #[.int .i64 0, .int .i64 0, .int .i64 0, .int .i64 0, .int .i64 0] (0, 0) _ rfl (blk_new _ _) Try.underlying33 rfl (by kernel_rfl)) rfl ?_
    exact ⟨rfl, below_alloc (Below.refl _ _) _⟩
end Go.Proofs.Ytiiphlfgdkjjiaa.Q
