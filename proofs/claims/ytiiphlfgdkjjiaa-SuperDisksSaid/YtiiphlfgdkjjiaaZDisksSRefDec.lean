/- transeptref06.Decode: a block of a sector, as the program reads it; no condition but that octets are octets. -/
import Derived.Deep.QuietTactic
import Derived.BigQuiet
import Derived.Test.YtiiphlfgdkjjiaaZDisksSDec
import Derived.Test.YtiiphlfgdkjjiaaZDisksSRefEnc
import Derived.Test.YtiiphlfgdkjjiaaZDisksQ38
import Derived.Test.YtiiphlfgdkjjiaaZDisksQ39
namespace Go.Proofs.Ytiiphlfgdkjjiaa.Q
open Go.RowKit Go.Proofs.YtiiphlfgdkjjiaaW.PrintWords Go.Proofs.YtiiphlfgdkjjiaaW.PrintLast Go.Proofs.YtiiphlfgdkjjiaaW.PrintMore
open Go.Proofs.Ytiiphlfgdkjjiaa.CrcP
set_option linter.unusedVariables false
set_option linter.unusedSimpArgs false

theorem number_l0 {l : List Int} (ho : octs l = true) (h8 : l.length ≤ 8) : ∀ (m k i : Nat), i + m = l.length → m + 1 ≤ k → transeptref01_Number.l0 k l ((num (l.take i) : Nat) : Int) (i : Int) = some ((num l : Nat) : Int) := by
  intro m
  induction m with
  | zero =>
    intro k i hi hk
    obtain ⟨k, rfl⟩ : ∃ j, k = j + 1 := ⟨k - 1, by omega⟩
    rw [transeptref01_Number.l0, if_neg (by omega), List.take_of_length_le (by omega)]
  | succ m ih =>
    intro k i hi hk
    obtain ⟨k, rfl⟩ : ∃ j, k = j + 1 := ⟨k - 1, by omega⟩
    have hlt : i < l.length := by omega
    have hx := octs_get ho (List.getElem_mem hlt)
    obtain ⟨x, hxe⟩ := Int.eq_ofNat_of_zero_le hx.1
    have hb := num_lt ho i
    have hb2 : num (l.take i) < 72057594037927936 := Nat.lt_of_lt_of_le hb (by
      have := Nat.pow_le_pow_right (n := 256) (by decide) (show i ≤ 7 by omega)
      simpa using this)
    have hrd : rd l (i : Int) = (x : Int) := by rw [rd, Int.toNat_natCast, List.getD_eq_getElem?_getD, List.getElem?_eq_getElem hlt]; exact hxe
    have hstep : IntKind.u64.wrap (IntKind.u64.wrap (((num (l.take i) : Nat) : Int) * 256) + IntKind.u64.wrap (x : Int)) = ((num (l.take (i + 1)) : Nat) : Int) := by
      rw [wrapU (x := ((num (l.take i) : Nat) : Int) * 256) (by omega) (by omega), wrapU (x := (x : Int)) (by omega) (by omega), wrapU (by omega) (by omega), List.take_succ_eq_append_getElem hlt, num_snoc, hxe, Int.toNat_natCast]
      omega
    rw [transeptref01_Number.l0, if_pos (by omega), if_pos (by omega), hrd, hstep, wrapS (by omega)]
    exact ih k (i + 1) (by omega) (by omega)
theorem number_f {l : List Int} (ho : octs l = true) (h8 : l.length ≤ 8) : transeptref01_Number.f 20 l = some ((num l : Nat) : Int) := by
  unfold transeptref01_Number.f
  have := number_l0 ho h8 l.length 20 0 (by omega) (by omega)
  rwa [List.take_zero] at this
theorem mark_bool (x : List Int) (h : octs x = true) : ((strOfNums x).toList == ([116, 115, 98, 49] : List UInt8)) = decide (x = markL) := by
  rw [Lib.strOfNums_toList, show ([116, 115, 98, 49] : List UInt8) = Lib.bytesOf markL from by decide]
  exact bytesOf_beq x markL (fun y hy => octs_get h hy) (by decide)
theorem any_at {l : List Int} {k x : Nat} (ho : octs l = true) (hx : l.getD k 0 = (x : Int)) (h0 : ¬ x = 0) (h48 : 48 ≤ k) (hk : k < l.length) : (l.drop 48).any (fun x => decide (x ≠ 0)) = true := by
  rw [List.any_eq_true]
  refine ⟨l[k], ?_, ?_⟩
  · rw [List.mem_iff_getElem]
    exact ⟨k - 48, by rw [List.length_drop]; omega, by rw [List.getElem_drop]; congr 1; omega⟩
  · rw [List.getD_eq_getElem?_getD, List.getElem?_eq_getElem hk] at hx
    rw [show l[k] = (x : Int) from hx]
    exact decide_eq_true (by omega)
def transeptref06_Decode.f (l : List Int) : Option (Int × Int × Int × Int × Int × Int) := if octs l = true then some (dec l) else none

set_option maxHeartbeats 16000000 in
set_option maxRecDepth 100000 in
theorem transeptref06_Decode.calls (A0 : Option Addr) (c0 : Nat) (l0 : List Int) (r1 r2 r3 r4 r5 r6 : Int) (w : World) (hr0 : Kd.C (Kd.int .u8) w A0 l0.length l0) (hc0 : l0.length ≤ c0) (h : transeptref06_Decode.f l0 = some (r1, r2, r3, r4, r5, r6)) :
    Calls Try.prog 42 #[.slice A0 l0.length c0] w fun e w' => e = .returned (.tuple #[.agg #[.int .i64 r1, .int .i64 r2, .int .i64 r3, .int .i64 r4, .int .i64 r5], .int .i64 r6]) ∧ Below w.heap.size w w' := by
  have hu := Try.underlying23
  unfold transeptref06_Decode.f at h
  have ho : octs l0 = true := by
    by_cases ho : octs l0 = true
    · exact ho
    · rw [if_neg ho] at h; cases h
  rw [if_pos ho] at h
  have h := Option.some.inj h
  unfold dec at h
  have HO := Aside0.mk ho
  have HR := Aside0.mk hr0
  clear hr0 ho
  by_cases hl : l0.length = 64
  · rw [if_pos hl] at h
    have HL := Aside0.mk hl
    rw [hl] at HR hc0 ⊢
    clear hl
    obtain ⟨i0, hi0, _, hsz0, _⟩ := info_parts info5
    have hcut0 := cut_to (P := Try.prog) 50 5 .i64 Try.underlying50 hi0 A0 64 c0 4 (by omega) (by omega) hc0
    have HSTR := Aside0.mk (fun (W : World) (hb : Below w.heap.size w W) => (by
      have hc := Kd.C_take (m := 4) (show Kd.C (Kd.int .u8) W A0 l0.length l0 from by rw [HL.out]; exact Kd.C_below HR.out hb) (by rw [HL.out]; decide)
      have hs := Kd.C_string (P := Try.prog) (src := 50) (dst := 9) (c := c0) Try.underlying50 Try.underlying5 Try.underlying9 hc
      rw [show (l0.take 4).length = 4 from by rw [List.length_take, HL.out]; decide] at hs
      exact hs : (convert 50 9 (.slice A0 4 c0)).run Try.prog W = .ok (.string (strOfNums (l0.take 4))) W))
    obtain ⟨W1, hW1⟩ : ∃ W1, W1 = w.alloc (.cells #[.int .i64 0, .int .i64 0, .int .i64 0, .int .i64 0, .int .i64 0] 23) := ⟨_, rfl⟩
    have BKR := Aside0.mk (show W1.heap[w.heap.size]? = some (.cells #[.int .i64 0, .int .i64 0, .int .i64 0, .int .i64 0, .int .i64 0] 23 (0, 0)) from by rw [hW1]; exact blk_new _ _)
    have HB := Aside0.mk (show Below w.heap.size w W1 from by rw [hW1]; exact below_alloc (Below.refl _ _) _)
    have hstr := HSTR.out W1 HB.out
    rw [hW1] at hstr
    have HW1 := Aside0.mk hW1
    clear hW1
    obtain ⟨sb, hsb⟩ : ∃ sb, ((strOfNums (l0.take 4)).toList == ([116, 115, 98, 49] : List UInt8)) = sb := ⟨_, rfl⟩
    have HSB := Aside0.mk (show sb = decide (l0.take 4 = markL) from hsb.symm.trans (mark_bool _ (octs_take HO.out 4)))
    by_cases hm : l0.take 4 = markL
    · rw [if_pos hm] at h
      have H := Aside0.mk h
      have hsb' : sb = true := HSB.out.trans (decide_eq_true hm)
      subst hsb'
      have hsn : ((strOfNums (l0.take 4)).toList != ([116, 115, 98, 49] : List UInt8)) = false := by unfold bne; rw [hsb]; rfl
      clear h hm HSB
      have hcut1 := cut_mid (P := Try.prog) 50 5 .i64 .i64 Try.underlying50 hi0 1 hsz0 A0 64 c0 44 48 (by omega) (by omega) (by omega) hc0
      obtain ⟨A1, hA1⟩ : ∃ A1, A1 = (if c0 = (44 : Int).toNat then A0 else A0.map (·.add ((44 : Int).toNat * 1))) := ⟨_, rfl⟩
      rw [← hA1] at hcut1
      have hcut2 := cut_to (P := Try.prog) 50 5 .i64 Try.underlying50 hi0 A0 64 c0 44 (by omega) (by omega) hc0
      obtain ⟨nm, hnm⟩ : ∃ nm, nm = num ((l0.take 48).drop 44) := ⟨_, rfl⟩
      have hl1 : ((l0.take 48).drop 44).length = 4 := by rw [List.length_drop, List.length_take, HL.out]; decide
      have hnl : nm < 4294967296 := by rw [hnm]; have := num_lt (octs_drop (octs_take HO.out 48) 44) 4; rw [List.take_of_length_le (by rw [hl1]; exact Nat.le_refl _)] at this; exact this
      obtain ⟨sm, hsm⟩ : ∃ sm, sm = csum (nats (l0.take 44)) := ⟨_, rfl⟩
      have hsl : sm < 4294967296 := by rw [hsm]; exact cext_lt (by decide) (octs_lt (octs_take HO.out 44))
      have HQ1 := Aside0.mk (show ∀ n, Calls Try.prog 71 #[.slice A1 4 (c0 - 44)] (W1.drewN n) fun e w' => e = .returned (.int .u64 (nm : Int)) ∧ ∃ m, w' = (W1.drewN n).drewN m from fun n => by
        have hb : Below w.heap.size w (W1.drewN n) := below_step HB.out (pw_below_drewN (Below.refl _ _) _)
        have hC1 := Kd.C_mid (lo := 44) (hi := 48) (c := c0) (show Kd.C (Kd.int .u8) (W1.drewN n) A0 l0.length l0 from by rw [HL.out]; exact Kd.C_below HR.out hb) (by omega) (by rw [HL.out]; omega) (by rw [HL.out]; exact hc0)
        have hg := transeptref01_Number.calls 20 A1 (c0 - 44) ((l0.take 48).drop 44) _ (W1.drewN n) (by rw [hA1]; exact hC1) (by rw [hl1]; omega) (number_f (octs_drop (octs_take HO.out 48) 44) (by rw [hl1]; decide))
        rw [hl1, ← hnm] at hg
        exact hg.mono fun e w' h_ => ⟨h_.1, h_.2.out⟩)
      have HQ2 := Aside0.mk (show ∀ n, Calls Try.prog 70 #[.slice A0 44 c0] (W1.drewN n) fun e w' => e = .returned (.int .u32 (sm : Int)) ∧ ∃ m, w' = (W1.drewN n).drewN m from fun n => by
        have hb : Below w.heap.size w (W1.drewN n) := below_step HB.out (pw_below_drewN (Below.refl _ _) _)
        have hl44 : (l0.take 44).length = 44 := by rw [List.length_take, HL.out]; decide
        have hC := Kd.C_take (m := 44) (show Kd.C (Kd.int .u8) (W1.drewN n) A0 l0.length l0 from by rw [HL.out]; exact Kd.C_below HR.out hb) (by rw [HL.out]; omega)
        have hg := transeptref02_Sum.calls A0 c0 (l0.take 44) _ (W1.drewN n) hC (by rw [hl44]; omega) (refsum_f (octs_take HO.out 44))
        rw [hl44, ← hsm] at hg
        exact hg.mono fun e w' h_ => ⟨h_.1, h_.2.out⟩)
      have HE1 := Aside0.mk hnm
      have HE2 := Aside0.mk hsm
      clear hA1 hnm hsm hl1
      go_enter Try.func42, Try.ntmps42
      go_wp2_with fail
      rw [← HW1.out]
      clear HW1 hcut0 hstr hsb hsn HSTR
      have h := H.out
      clear H
      rw [← HE1.out, ← HE2.out] at h
      by_cases hns : nm = sm
      · rw [if_pos hns] at h
        have H := Aside0.mk h
        have b1 : ((nm : Int) != (sm : Int)) = false := by rw [bne_eq_false_iff_eq]; omega
        have b2 : (nm != sm) = false := by rw [bne_eq_false_iff_eq]; exact hns
        clear h hns
        go_quiet (first | (go_at_call 71; exact Calls.quiet_of (HQ1.out _)) | (go_at_call 70; exact Calls.quiet_of (HQ2.out _)))
        obtain ⟨W2, hW2⟩ : ∃ W2, W2 = W1.drewN nq := ⟨_, rfl⟩
        have hb2 : Below W1.heap.size W1 W2 := by rw [hW2]; exact pw_below_drewN (Below.refl _ _) _
        have BKR2 := Aside0.mk (blk_below BKR.out hb2)
        have HB2 := Aside0.mk (below_step HB.out hb2)
        rw [← hW2]
        clear hW2 hb2 BKR HB HQ1 HQ2 hcut1 hcut2
        have h3 : (64 : Int) = ((l0.length : Nat) : Int) := by rw [HL.out]; rfl
        clear h3
        go_wp2_with fail
        go_loopw [4] (fun i wr => ∃ k : Nat, 48 ≤ k ∧ k ≤ 64 ∧ i = .int .i64 k ∧ Hid (((l0.take k).drop 48).any (fun x => decide (x ≠ 0)) = false) ∧ Hid (wr.heap[w.heap.size]? = some (.cells #[.int .i64 0, .int .i64 0, .int .i64 0, .int .i64 0, .int .i64 0] 23 (0, 0))) ∧ Hid (Below w.heap.size w wr)) (fun i _ => 64 - (intOf i).toNat)
        case atStart => exact ⟨48, by omega, by omega, rfl, by rw [List.drop_eq_nil_of_le (by rw [List.length_take]; omega)]; rfl, BKR2.out, HB2.out⟩
        case round =>
          clear BKR2 HB2
          obtain ⟨k, hk1, hk2, rfl, HA, BKR, HB⟩ := hrel
          by_cases hlt : k < 64
          · have hkl : k < l0.length := by rw [HL.out]; exact hlt
            obtain ⟨x, hx1, hx2, hx3⟩ := octs_at HO.out k hkl
            obtain ⟨ad, e', hx⟩ := Kd.at_int (show Kd.C (Kd.int .u8) wr A0 l0.length l0 from by rw [HL.out]; exact Kd.C_below HR.out HB) (k : Int) (Int.natCast_nonneg _) (Int.ofNat_lt.2 hkl)
            rw [Int.toNat_natCast, rd, Int.toNat_natCast, hx1] at hx
            have HX1 := Aside0.mk hx1
            have hs : l0.take (k + 1) = l0.take k ++ [(x : Int)] := by rw [List.take_succ_eq_append_getElem hkl]; rw [List.getD_eq_getElem?_getD, List.getElem?_eq_getElem hkl] at hx1; rw [show l0[k] = (x : Int) from hx1]
            have hd : (l0.take (k + 1)).drop 48 = (l0.take k).drop 48 ++ [(x : Int)] := by rw [hs, List.drop_append_of_le_length (by rw [List.length_take]; omega)]
            have HD := Aside0.mk hd
            clear hx1 hx3 hs hd hkl
            subst e'
            by_cases hx0 : x = 0
            · subst hx0
              have b3 : (((0 : Nat) : Int) != 0) = false := rfl
              go_wp2_with fail
              go_roundw
              case rel => exact ⟨k + 1, by omega, by omega, by go_num, Lib.hid (by rw [HD.out, List.any_append, show ((l0.take k).drop 48).any (fun x => decide (x ≠ 0)) = false from HA]; rfl), BKR, HB⟩
              case measure => simp [intOf]; omega
            · have b3 : ((x : Int) != 0) = true := by rw [bne_iff_ne]; omega
              have hany := any_at HO.out HX1.out hx0 hk1 (by rw [HL.out]; exact hlt)
              have h := H.out
              rw [if_pos hany] at h
              clear hany hx0
              simp only [Prod.mk.injEq] at h
              obtain ⟨h1, h2, h3, h4, h5, h6⟩ := h
              subst h1 h2 h3 h4 h5 h6
              have BKR2 := Aside0.mk BKR
              have HB2 := Aside0.mk HB
              clear BKR HB H HA HD HX1
              have z0 : wr.cell? ⟨w.heap.size, 0, none⟩ = some (.int .i64 0) := (blk_cell BKR2.out 0).trans rfl
              have f0 := blk_frozen BKR2.out 0
              have z1 : wr.cell? ⟨w.heap.size, 1, none⟩ = some (.int .i64 0) := (blk_cell BKR2.out 1).trans rfl
              have f1 := blk_frozen BKR2.out 1
              have z2 : wr.cell? ⟨w.heap.size, 2, none⟩ = some (.int .i64 0) := (blk_cell BKR2.out 2).trans rfl
              have f2 := blk_frozen BKR2.out 2
              have z3 : wr.cell? ⟨w.heap.size, 3, none⟩ = some (.int .i64 0) := (blk_cell BKR2.out 3).trans rfl
              have f3 := blk_frozen BKR2.out 3
              have z4 : wr.cell? ⟨w.heap.size, 4, none⟩ = some (.int .i64 0) := (blk_cell BKR2.out 4).trans rfl
              have f4 := blk_frozen BKR2.out 4
              go_wp2_with fail
              refine bodyPost_ret (results_ct rfl _ _ w.heap.size 23 #[.int .i64 0, .int .i64 0, .int .i64 0, .int .i64 0, .int .i64 0] (0, 0) _ rfl (five_put BKR2.out) Try.underlying23 rfl (by kernel_rfl)) rfl ?_
              exact ⟨rfl, five_below HB2.out (Nat.le_refl _)⟩
          · obtain rfl : k = 64 := by omega
            have h := H.out
            clear H
            rw [if_neg (by rw [← show ((l0.take 64).drop 48) = l0.drop 48 from by rw [List.take_of_length_le (by rw [HL.out]; exact Nat.le_refl _)], show ((l0.take 64).drop 48).any (fun x => decide (x ≠ 0)) = false from HA]; decide)] at h
            have H := Aside0.mk h
            clear h HA
            go_wp2_with fail
            obtain ⟨go, hgo⟩ : ∃ go, go = wr.heap.size := ⟨_, rfl⟩
            obtain ⟨W4, hW4⟩ : ∃ W4, W4 = wr.alloc (.cells #[.int .i64 0, .int .i64 0, .int .i64 0, .int .i64 0, .int .i64 0] 115) := ⟨_, rfl⟩
            have hal := below_alloc (Below.refl wr.heap.size wr) (.cells #[.int .i64 0, .int .i64 0, .int .i64 0, .int .i64 0, .int .i64 0] 115)
            have BKO7 := Aside0.mk (show W4.heap[go]? = some (.cells (outC l0 0) 115 (0, 0)) from by rw [hgo, hW4]; exact blk_new _ _)
            have BKR7 := Aside0.mk (show W4.heap[w.heap.size]? = some (.cells #[.int .i64 0, .int .i64 0, .int .i64 0, .int .i64 0, .int .i64 0] 23 (0, 0)) from by rw [hW4]; exact blk_below BKR hal)
            have HB7 := Aside0.mk (show Below w.heap.size w W4 from by rw [hW4]; exact below_step HB hal)
            have NG := Aside0.mk (show w.heap.size ≠ go from by have := blk_lt BKR; omega)
            have GG := Aside0.mk (show w.heap.size ≤ go from by rw [hgo]; exact (show Below w.heap.size w wr from HB).size)
            rw [← hW4, ← hgo]
            clear hgo hW4 hal BKR HB
            rw [show (((64 : Nat) : Int)) = 64 from rfl]
            go_loopw [6] (fun i wq => ∃ k : Nat, k ≤ 5 ∧ i = .int .i64 k ∧ Hid (∀ j, j < k → numAt l0 j ≤ 1099511627776) ∧ Hid (wq.heap[w.heap.size]? = some (.cells #[.int .i64 0, .int .i64 0, .int .i64 0, .int .i64 0, .int .i64 0] 23 (0, 0))) ∧ Hid (wq.heap[go]? = some (.cells (outC l0 k) 115 (0, 0))) ∧ Hid (Below w.heap.size w wq)) (fun i _ => 5 - (intOf i).toNat)
            case atStart => exact ⟨0, by omega, rfl, fun j hj => absurd hj (by omega), BKR7.out, BKO7.out, HB7.out⟩
            case round =>
              clear BKR7 BKO7 HB7
              obtain ⟨k, hk, rfl, HN, BKR, BKO, HB⟩ := hrel
              by_cases hlt5 : k < 5
              · rcases (by omega : k = 0 ∨ k = 1 ∨ k = 2 ∨ k = 3 ∨ k = 4) with rfl | rfl | rfl | rfl | rfl
                · obtain ⟨Ak, hAk⟩ : ∃ Ak, Ak = (if c0 = (4 : Int).toNat then A0 else A0.map (·.add ((4 : Int).toNat * 1))) := ⟨_, rfl⟩
                  have hcutA := cut_mid (P := Try.prog) 50 5 .i64 .i64 Try.underlying50 hi0 1 hsz0 A0 64 c0 4 12 (by omega) (by omega) (by omega) hc0
                  rw [← hAk] at hcutA
                  have hseg : ((l0.take 12).drop 4) = (l0.drop (4 + 8 * 0)).take 8 := by rw [List.drop_take]
                  have hCk := Kd.C_mid (lo := 4) (hi := 12) (c := c0) (show Kd.C (Kd.int .u8) wr A0 l0.length l0 from by rw [HL.out]; exact Kd.C_below HR.out HB) (by omega) (by rw [HL.out]; omega) (by rw [HL.out]; exact hc0)
                  have hls := seg_length HL.out (show 0 < 5 by omega)
                  have hgk := transeptref01_Number.calls 20 Ak (c0 - 4) ((l0.drop (4 + 8 * 0)).take 8) _ wr (by rw [hAk, ← hseg]; exact hCk) (by rw [hls]; omega) (number_f (octs_take (octs_drop HO.out _) 8) (by rw [hls]; decide))
                  rw [hls] at hgk
                  have HGK := Aside0.mk (show Calls Try.prog 71 #[.slice Ak 8 (c0 - 4)] wr fun e w' => e = .returned (.int .u64 (numAt l0 0 : Nat)) ∧ Drawn0 wr w' from hgk)
                  have hx64 := numAt_lt HO.out 0
                  clear hAk hCk hls hgk hseg
                  go_wp2_with fail
                  refine HGK.out.mono ?_
                  clear HGK hcutA
                  rintro e w8 ⟨rfl, ⟨⟨m8, rfl⟩⟩⟩
                  obtain ⟨W8, hW8⟩ : ∃ W8, W8 = wr.drewN m8 := ⟨_, rfl⟩
                  have hb8 : Below wr.heap.size wr W8 := by rw [hW8]; exact pw_below_drewN (Below.refl _ _) _
                  have BKR8 := Aside0.mk (blk_below BKR hb8)
                  have BKO8 := Aside0.mk (blk_below BKO hb8)
                  have HB8 := Aside0.mk (below_step HB hb8)
                  rw [← hW8]
                  clear hW8 hb8 BKR BKO HB
                  by_cases hbig : 1099511627776 < numAt l0 0
                  · have h := H.out
                    rw [if_pos (big_at (by omega) hbig)] at h
                    simp only [Prod.mk.injEq] at h
                    obtain ⟨h1, h2, h3, h4, h5, h6⟩ := h
                    subst h1 h2 h3 h4 h5 h6
                    have b3 : decide (1099511627776 < ((numAt l0 0 : Nat) : Int)) = true := decide_eq_true (by omega)
                    clear hbig
                    have z0 : W8.cell? ⟨w.heap.size, 0, none⟩ = some (.int .i64 0) := (blk_cell BKR8.out 0).trans rfl
                    have f0 := blk_frozen BKR8.out 0
                    have z1 : W8.cell? ⟨w.heap.size, 1, none⟩ = some (.int .i64 0) := (blk_cell BKR8.out 1).trans rfl
                    have f1 := blk_frozen BKR8.out 1
                    have z2 : W8.cell? ⟨w.heap.size, 2, none⟩ = some (.int .i64 0) := (blk_cell BKR8.out 2).trans rfl
                    have f2 := blk_frozen BKR8.out 2
                    have z3 : W8.cell? ⟨w.heap.size, 3, none⟩ = some (.int .i64 0) := (blk_cell BKR8.out 3).trans rfl
                    have f3 := blk_frozen BKR8.out 3
                    have z4 : W8.cell? ⟨w.heap.size, 4, none⟩ = some (.int .i64 0) := (blk_cell BKR8.out 4).trans rfl
                    have f4 := blk_frozen BKR8.out 4
                    go_wp2_with fail
                    refine bodyPost_ret (results_ct rfl _ _ w.heap.size 23 #[.int .i64 0, .int .i64 0, .int .i64 0, .int .i64 0, .int .i64 0] (0, 0) _ rfl (five_put BKR8.out) Try.underlying23 rfl (by kernel_rfl)) rfl ?_
                    exact ⟨rfl, five_below HB8.out (Nat.le_refl _)⟩
                  · have b3 : decide (1099511627776 < ((numAt l0 0 : Nat) : Int)) = false := decide_eq_false (by omega)
                    have hle : ((numAt l0 0 : Nat) : Int) ≤ 1099511627776 := by omega
                    have HN2 := Lib.hid (show ∀ j, j < 1 → numAt l0 j ≤ 1099511627776 from fun j hj => by
                      rcases (by omega : j < 0 ∨ j = 0) with h_ | h_
                      · exact (show ∀ j, j < 0 → numAt l0 j ≤ 1099511627776 from HN) j h_
                      · rw [h_]; omega)
                    have zk : W8.cell? ⟨go, 0, none⟩ = some (.int .i64 0) := (blk_cell BKO8.out 0).trans rfl
                    have fk := blk_frozen BKO8.out 0
                    clear hbig HN
                    go_wp2_with fail
                    go_roundw
                    case rel => exact ⟨1, by omega, rfl, HN2, Lib.hid (blk_far BKR8.out (p := ⟨go, 0, none⟩) NG.out _), Lib.hid (blk_put BKO8.out 0 _ rfl), Lib.hid (HB8.out.setCell (p := ⟨go, 0, none⟩) GG.out _)⟩
                    case measure => simp [intOf]
                · obtain ⟨Ak, hAk⟩ : ∃ Ak, Ak = (if c0 = (12 : Int).toNat then A0 else A0.map (·.add ((12 : Int).toNat * 1))) := ⟨_, rfl⟩
                  have hcutA := cut_mid (P := Try.prog) 50 5 .i64 .i64 Try.underlying50 hi0 1 hsz0 A0 64 c0 12 20 (by omega) (by omega) (by omega) hc0
                  rw [← hAk] at hcutA
                  have hseg : ((l0.take 20).drop 12) = (l0.drop (4 + 8 * 1)).take 8 := by rw [List.drop_take]
                  have hCk := Kd.C_mid (lo := 12) (hi := 20) (c := c0) (show Kd.C (Kd.int .u8) wr A0 l0.length l0 from by rw [HL.out]; exact Kd.C_below HR.out HB) (by omega) (by rw [HL.out]; omega) (by rw [HL.out]; exact hc0)
                  have hls := seg_length HL.out (show 1 < 5 by omega)
                  have hgk := transeptref01_Number.calls 20 Ak (c0 - 12) ((l0.drop (4 + 8 * 1)).take 8) _ wr (by rw [hAk, ← hseg]; exact hCk) (by rw [hls]; omega) (number_f (octs_take (octs_drop HO.out _) 8) (by rw [hls]; decide))
                  rw [hls] at hgk
                  have HGK := Aside0.mk (show Calls Try.prog 71 #[.slice Ak 8 (c0 - 12)] wr fun e w' => e = .returned (.int .u64 (numAt l0 1 : Nat)) ∧ Drawn0 wr w' from hgk)
                  have hx64 := numAt_lt HO.out 1
                  clear hAk hCk hls hgk hseg
                  go_wp2_with fail
                  refine HGK.out.mono ?_
                  clear HGK hcutA
                  rintro e w8 ⟨rfl, ⟨⟨m8, rfl⟩⟩⟩
                  obtain ⟨W8, hW8⟩ : ∃ W8, W8 = wr.drewN m8 := ⟨_, rfl⟩
                  have hb8 : Below wr.heap.size wr W8 := by rw [hW8]; exact pw_below_drewN (Below.refl _ _) _
                  have BKR8 := Aside0.mk (blk_below BKR hb8)
                  have BKO8 := Aside0.mk (blk_below BKO hb8)
                  have HB8 := Aside0.mk (below_step HB hb8)
                  rw [← hW8]
                  clear hW8 hb8 BKR BKO HB
                  by_cases hbig : 1099511627776 < numAt l0 1
                  · have h := H.out
                    rw [if_pos (big_at (by omega) hbig)] at h
                    simp only [Prod.mk.injEq] at h
                    obtain ⟨h1, h2, h3, h4, h5, h6⟩ := h
                    subst h1 h2 h3 h4 h5 h6
                    have b3 : decide (1099511627776 < ((numAt l0 1 : Nat) : Int)) = true := decide_eq_true (by omega)
                    clear hbig
                    have z0 : W8.cell? ⟨w.heap.size, 0, none⟩ = some (.int .i64 0) := (blk_cell BKR8.out 0).trans rfl
                    have f0 := blk_frozen BKR8.out 0
                    have z1 : W8.cell? ⟨w.heap.size, 1, none⟩ = some (.int .i64 0) := (blk_cell BKR8.out 1).trans rfl
                    have f1 := blk_frozen BKR8.out 1
                    have z2 : W8.cell? ⟨w.heap.size, 2, none⟩ = some (.int .i64 0) := (blk_cell BKR8.out 2).trans rfl
                    have f2 := blk_frozen BKR8.out 2
                    have z3 : W8.cell? ⟨w.heap.size, 3, none⟩ = some (.int .i64 0) := (blk_cell BKR8.out 3).trans rfl
                    have f3 := blk_frozen BKR8.out 3
                    have z4 : W8.cell? ⟨w.heap.size, 4, none⟩ = some (.int .i64 0) := (blk_cell BKR8.out 4).trans rfl
                    have f4 := blk_frozen BKR8.out 4
                    go_wp2_with fail
                    refine bodyPost_ret (results_ct rfl _ _ w.heap.size 23 #[.int .i64 0, .int .i64 0, .int .i64 0, .int .i64 0, .int .i64 0] (0, 0) _ rfl (five_put BKR8.out) Try.underlying23 rfl (by kernel_rfl)) rfl ?_
                    exact ⟨rfl, five_below HB8.out (Nat.le_refl _)⟩
                  · have b3 : decide (1099511627776 < ((numAt l0 1 : Nat) : Int)) = false := decide_eq_false (by omega)
                    have hle : ((numAt l0 1 : Nat) : Int) ≤ 1099511627776 := by omega
                    have HN2 := Lib.hid (show ∀ j, j < 2 → numAt l0 j ≤ 1099511627776 from fun j hj => by
                      rcases (by omega : j < 1 ∨ j = 1) with h_ | h_
                      · exact (show ∀ j, j < 1 → numAt l0 j ≤ 1099511627776 from HN) j h_
                      · rw [h_]; omega)
                    have zk : W8.cell? ⟨go, 1, none⟩ = some (.int .i64 0) := (blk_cell BKO8.out 1).trans rfl
                    have fk := blk_frozen BKO8.out 1
                    clear hbig HN
                    go_wp2_with fail
                    go_roundw
                    case rel => exact ⟨2, by omega, rfl, HN2, Lib.hid (blk_far BKR8.out (p := ⟨go, 1, none⟩) NG.out _), Lib.hid (blk_put BKO8.out 1 _ rfl), Lib.hid (HB8.out.setCell (p := ⟨go, 1, none⟩) GG.out _)⟩
                    case measure => simp [intOf]
                · obtain ⟨Ak, hAk⟩ : ∃ Ak, Ak = (if c0 = (20 : Int).toNat then A0 else A0.map (·.add ((20 : Int).toNat * 1))) := ⟨_, rfl⟩
                  have hcutA := cut_mid (P := Try.prog) 50 5 .i64 .i64 Try.underlying50 hi0 1 hsz0 A0 64 c0 20 28 (by omega) (by omega) (by omega) hc0
                  rw [← hAk] at hcutA
                  have hseg : ((l0.take 28).drop 20) = (l0.drop (4 + 8 * 2)).take 8 := by rw [List.drop_take]
                  have hCk := Kd.C_mid (lo := 20) (hi := 28) (c := c0) (show Kd.C (Kd.int .u8) wr A0 l0.length l0 from by rw [HL.out]; exact Kd.C_below HR.out HB) (by omega) (by rw [HL.out]; omega) (by rw [HL.out]; exact hc0)
                  have hls := seg_length HL.out (show 2 < 5 by omega)
                  have hgk := transeptref01_Number.calls 20 Ak (c0 - 20) ((l0.drop (4 + 8 * 2)).take 8) _ wr (by rw [hAk, ← hseg]; exact hCk) (by rw [hls]; omega) (number_f (octs_take (octs_drop HO.out _) 8) (by rw [hls]; decide))
                  rw [hls] at hgk
                  have HGK := Aside0.mk (show Calls Try.prog 71 #[.slice Ak 8 (c0 - 20)] wr fun e w' => e = .returned (.int .u64 (numAt l0 2 : Nat)) ∧ Drawn0 wr w' from hgk)
                  have hx64 := numAt_lt HO.out 2
                  clear hAk hCk hls hgk hseg
                  go_wp2_with fail
                  refine HGK.out.mono ?_
                  clear HGK hcutA
                  rintro e w8 ⟨rfl, ⟨⟨m8, rfl⟩⟩⟩
                  obtain ⟨W8, hW8⟩ : ∃ W8, W8 = wr.drewN m8 := ⟨_, rfl⟩
                  have hb8 : Below wr.heap.size wr W8 := by rw [hW8]; exact pw_below_drewN (Below.refl _ _) _
                  have BKR8 := Aside0.mk (blk_below BKR hb8)
                  have BKO8 := Aside0.mk (blk_below BKO hb8)
                  have HB8 := Aside0.mk (below_step HB hb8)
                  rw [← hW8]
                  clear hW8 hb8 BKR BKO HB
                  by_cases hbig : 1099511627776 < numAt l0 2
                  · have h := H.out
                    rw [if_pos (big_at (by omega) hbig)] at h
                    simp only [Prod.mk.injEq] at h
                    obtain ⟨h1, h2, h3, h4, h5, h6⟩ := h
                    subst h1 h2 h3 h4 h5 h6
                    have b3 : decide (1099511627776 < ((numAt l0 2 : Nat) : Int)) = true := decide_eq_true (by omega)
                    clear hbig
                    have z0 : W8.cell? ⟨w.heap.size, 0, none⟩ = some (.int .i64 0) := (blk_cell BKR8.out 0).trans rfl
                    have f0 := blk_frozen BKR8.out 0
                    have z1 : W8.cell? ⟨w.heap.size, 1, none⟩ = some (.int .i64 0) := (blk_cell BKR8.out 1).trans rfl
                    have f1 := blk_frozen BKR8.out 1
                    have z2 : W8.cell? ⟨w.heap.size, 2, none⟩ = some (.int .i64 0) := (blk_cell BKR8.out 2).trans rfl
                    have f2 := blk_frozen BKR8.out 2
                    have z3 : W8.cell? ⟨w.heap.size, 3, none⟩ = some (.int .i64 0) := (blk_cell BKR8.out 3).trans rfl
                    have f3 := blk_frozen BKR8.out 3
                    have z4 : W8.cell? ⟨w.heap.size, 4, none⟩ = some (.int .i64 0) := (blk_cell BKR8.out 4).trans rfl
                    have f4 := blk_frozen BKR8.out 4
                    go_wp2_with fail
                    refine bodyPost_ret (results_ct rfl _ _ w.heap.size 23 #[.int .i64 0, .int .i64 0, .int .i64 0, .int .i64 0, .int .i64 0] (0, 0) _ rfl (five_put BKR8.out) Try.underlying23 rfl (by kernel_rfl)) rfl ?_
                    exact ⟨rfl, five_below HB8.out (Nat.le_refl _)⟩
                  · have b3 : decide (1099511627776 < ((numAt l0 2 : Nat) : Int)) = false := decide_eq_false (by omega)
                    have hle : ((numAt l0 2 : Nat) : Int) ≤ 1099511627776 := by omega
                    have HN2 := Lib.hid (show ∀ j, j < 3 → numAt l0 j ≤ 1099511627776 from fun j hj => by
                      rcases (by omega : j < 2 ∨ j = 2) with h_ | h_
                      · exact (show ∀ j, j < 2 → numAt l0 j ≤ 1099511627776 from HN) j h_
                      · rw [h_]; omega)
                    have zk : W8.cell? ⟨go, 2, none⟩ = some (.int .i64 0) := (blk_cell BKO8.out 2).trans rfl
                    have fk := blk_frozen BKO8.out 2
                    clear hbig HN
                    go_wp2_with fail
                    go_roundw
                    case rel => exact ⟨3, by omega, rfl, HN2, Lib.hid (blk_far BKR8.out (p := ⟨go, 2, none⟩) NG.out _), Lib.hid (blk_put BKO8.out 2 _ rfl), Lib.hid (HB8.out.setCell (p := ⟨go, 2, none⟩) GG.out _)⟩
                    case measure => simp [intOf]
                · obtain ⟨Ak, hAk⟩ : ∃ Ak, Ak = (if c0 = (28 : Int).toNat then A0 else A0.map (·.add ((28 : Int).toNat * 1))) := ⟨_, rfl⟩
                  have hcutA := cut_mid (P := Try.prog) 50 5 .i64 .i64 Try.underlying50 hi0 1 hsz0 A0 64 c0 28 36 (by omega) (by omega) (by omega) hc0
                  rw [← hAk] at hcutA
                  have hseg : ((l0.take 36).drop 28) = (l0.drop (4 + 8 * 3)).take 8 := by rw [List.drop_take]
                  have hCk := Kd.C_mid (lo := 28) (hi := 36) (c := c0) (show Kd.C (Kd.int .u8) wr A0 l0.length l0 from by rw [HL.out]; exact Kd.C_below HR.out HB) (by omega) (by rw [HL.out]; omega) (by rw [HL.out]; exact hc0)
                  have hls := seg_length HL.out (show 3 < 5 by omega)
                  have hgk := transeptref01_Number.calls 20 Ak (c0 - 28) ((l0.drop (4 + 8 * 3)).take 8) _ wr (by rw [hAk, ← hseg]; exact hCk) (by rw [hls]; omega) (number_f (octs_take (octs_drop HO.out _) 8) (by rw [hls]; decide))
                  rw [hls] at hgk
                  have HGK := Aside0.mk (show Calls Try.prog 71 #[.slice Ak 8 (c0 - 28)] wr fun e w' => e = .returned (.int .u64 (numAt l0 3 : Nat)) ∧ Drawn0 wr w' from hgk)
                  have hx64 := numAt_lt HO.out 3
                  clear hAk hCk hls hgk hseg
                  go_wp2_with fail
                  refine HGK.out.mono ?_
                  clear HGK hcutA
                  rintro e w8 ⟨rfl, ⟨⟨m8, rfl⟩⟩⟩
                  obtain ⟨W8, hW8⟩ : ∃ W8, W8 = wr.drewN m8 := ⟨_, rfl⟩
                  have hb8 : Below wr.heap.size wr W8 := by rw [hW8]; exact pw_below_drewN (Below.refl _ _) _
                  have BKR8 := Aside0.mk (blk_below BKR hb8)
                  have BKO8 := Aside0.mk (blk_below BKO hb8)
                  have HB8 := Aside0.mk (below_step HB hb8)
                  rw [← hW8]
                  clear hW8 hb8 BKR BKO HB
                  by_cases hbig : 1099511627776 < numAt l0 3
                  · have h := H.out
                    rw [if_pos (big_at (by omega) hbig)] at h
                    simp only [Prod.mk.injEq] at h
                    obtain ⟨h1, h2, h3, h4, h5, h6⟩ := h
                    subst h1 h2 h3 h4 h5 h6
                    have b3 : decide (1099511627776 < ((numAt l0 3 : Nat) : Int)) = true := decide_eq_true (by omega)
                    clear hbig
                    have z0 : W8.cell? ⟨w.heap.size, 0, none⟩ = some (.int .i64 0) := (blk_cell BKR8.out 0).trans rfl
                    have f0 := blk_frozen BKR8.out 0
                    have z1 : W8.cell? ⟨w.heap.size, 1, none⟩ = some (.int .i64 0) := (blk_cell BKR8.out 1).trans rfl
                    have f1 := blk_frozen BKR8.out 1
                    have z2 : W8.cell? ⟨w.heap.size, 2, none⟩ = some (.int .i64 0) := (blk_cell BKR8.out 2).trans rfl
                    have f2 := blk_frozen BKR8.out 2
                    have z3 : W8.cell? ⟨w.heap.size, 3, none⟩ = some (.int .i64 0) := (blk_cell BKR8.out 3).trans rfl
                    have f3 := blk_frozen BKR8.out 3
                    have z4 : W8.cell? ⟨w.heap.size, 4, none⟩ = some (.int .i64 0) := (blk_cell BKR8.out 4).trans rfl
                    have f4 := blk_frozen BKR8.out 4
                    go_wp2_with fail
                    refine bodyPost_ret (results_ct rfl _ _ w.heap.size 23 #[.int .i64 0, .int .i64 0, .int .i64 0, .int .i64 0, .int .i64 0] (0, 0) _ rfl (five_put BKR8.out) Try.underlying23 rfl (by kernel_rfl)) rfl ?_
                    exact ⟨rfl, five_below HB8.out (Nat.le_refl _)⟩
                  · have b3 : decide (1099511627776 < ((numAt l0 3 : Nat) : Int)) = false := decide_eq_false (by omega)
                    have hle : ((numAt l0 3 : Nat) : Int) ≤ 1099511627776 := by omega
                    have HN2 := Lib.hid (show ∀ j, j < 4 → numAt l0 j ≤ 1099511627776 from fun j hj => by
                      rcases (by omega : j < 3 ∨ j = 3) with h_ | h_
                      · exact (show ∀ j, j < 3 → numAt l0 j ≤ 1099511627776 from HN) j h_
                      · rw [h_]; omega)
                    have zk : W8.cell? ⟨go, 3, none⟩ = some (.int .i64 0) := (blk_cell BKO8.out 3).trans rfl
                    have fk := blk_frozen BKO8.out 3
                    clear hbig HN
                    go_wp2_with fail
                    go_roundw
                    case rel => exact ⟨4, by omega, rfl, HN2, Lib.hid (blk_far BKR8.out (p := ⟨go, 3, none⟩) NG.out _), Lib.hid (blk_put BKO8.out 3 _ rfl), Lib.hid (HB8.out.setCell (p := ⟨go, 3, none⟩) GG.out _)⟩
                    case measure => simp [intOf]
                · obtain ⟨Ak, hAk⟩ : ∃ Ak, Ak = (if c0 = (36 : Int).toNat then A0 else A0.map (·.add ((36 : Int).toNat * 1))) := ⟨_, rfl⟩
                  have hcutA := cut_mid (P := Try.prog) 50 5 .i64 .i64 Try.underlying50 hi0 1 hsz0 A0 64 c0 36 44 (by omega) (by omega) (by omega) hc0
                  rw [← hAk] at hcutA
                  have hseg : ((l0.take 44).drop 36) = (l0.drop (4 + 8 * 4)).take 8 := by rw [List.drop_take]
                  have hCk := Kd.C_mid (lo := 36) (hi := 44) (c := c0) (show Kd.C (Kd.int .u8) wr A0 l0.length l0 from by rw [HL.out]; exact Kd.C_below HR.out HB) (by omega) (by rw [HL.out]; omega) (by rw [HL.out]; exact hc0)
                  have hls := seg_length HL.out (show 4 < 5 by omega)
                  have hgk := transeptref01_Number.calls 20 Ak (c0 - 36) ((l0.drop (4 + 8 * 4)).take 8) _ wr (by rw [hAk, ← hseg]; exact hCk) (by rw [hls]; omega) (number_f (octs_take (octs_drop HO.out _) 8) (by rw [hls]; decide))
                  rw [hls] at hgk
                  have HGK := Aside0.mk (show Calls Try.prog 71 #[.slice Ak 8 (c0 - 36)] wr fun e w' => e = .returned (.int .u64 (numAt l0 4 : Nat)) ∧ Drawn0 wr w' from hgk)
                  have hx64 := numAt_lt HO.out 4
                  clear hAk hCk hls hgk hseg
                  go_wp2_with fail
                  refine HGK.out.mono ?_
                  clear HGK hcutA
                  rintro e w8 ⟨rfl, ⟨⟨m8, rfl⟩⟩⟩
                  obtain ⟨W8, hW8⟩ : ∃ W8, W8 = wr.drewN m8 := ⟨_, rfl⟩
                  have hb8 : Below wr.heap.size wr W8 := by rw [hW8]; exact pw_below_drewN (Below.refl _ _) _
                  have BKR8 := Aside0.mk (blk_below BKR hb8)
                  have BKO8 := Aside0.mk (blk_below BKO hb8)
                  have HB8 := Aside0.mk (below_step HB hb8)
                  rw [← hW8]
                  clear hW8 hb8 BKR BKO HB
                  by_cases hbig : 1099511627776 < numAt l0 4
                  · have h := H.out
                    rw [if_pos (big_at (by omega) hbig)] at h
                    simp only [Prod.mk.injEq] at h
                    obtain ⟨h1, h2, h3, h4, h5, h6⟩ := h
                    subst h1 h2 h3 h4 h5 h6
                    have b3 : decide (1099511627776 < ((numAt l0 4 : Nat) : Int)) = true := decide_eq_true (by omega)
                    clear hbig
                    have z0 : W8.cell? ⟨w.heap.size, 0, none⟩ = some (.int .i64 0) := (blk_cell BKR8.out 0).trans rfl
                    have f0 := blk_frozen BKR8.out 0
                    have z1 : W8.cell? ⟨w.heap.size, 1, none⟩ = some (.int .i64 0) := (blk_cell BKR8.out 1).trans rfl
                    have f1 := blk_frozen BKR8.out 1
                    have z2 : W8.cell? ⟨w.heap.size, 2, none⟩ = some (.int .i64 0) := (blk_cell BKR8.out 2).trans rfl
                    have f2 := blk_frozen BKR8.out 2
                    have z3 : W8.cell? ⟨w.heap.size, 3, none⟩ = some (.int .i64 0) := (blk_cell BKR8.out 3).trans rfl
                    have f3 := blk_frozen BKR8.out 3
                    have z4 : W8.cell? ⟨w.heap.size, 4, none⟩ = some (.int .i64 0) := (blk_cell BKR8.out 4).trans rfl
                    have f4 := blk_frozen BKR8.out 4
                    go_wp2_with fail
                    refine bodyPost_ret (results_ct rfl _ _ w.heap.size 23 #[.int .i64 0, .int .i64 0, .int .i64 0, .int .i64 0, .int .i64 0] (0, 0) _ rfl (five_put BKR8.out) Try.underlying23 rfl (by kernel_rfl)) rfl ?_
                    exact ⟨rfl, five_below HB8.out (Nat.le_refl _)⟩
                  · have b3 : decide (1099511627776 < ((numAt l0 4 : Nat) : Int)) = false := decide_eq_false (by omega)
                    have hle : ((numAt l0 4 : Nat) : Int) ≤ 1099511627776 := by omega
                    have HN2 := Lib.hid (show ∀ j, j < 5 → numAt l0 j ≤ 1099511627776 from fun j hj => by
                      rcases (by omega : j < 4 ∨ j = 4) with h_ | h_
                      · exact (show ∀ j, j < 4 → numAt l0 j ≤ 1099511627776 from HN) j h_
                      · rw [h_]; omega)
                    have zk : W8.cell? ⟨go, 4, none⟩ = some (.int .i64 0) := (blk_cell BKO8.out 4).trans rfl
                    have fk := blk_frozen BKO8.out 4
                    clear hbig HN
                    go_wp2_with fail
                    go_roundw
                    case rel => exact ⟨5, by omega, rfl, HN2, Lib.hid (blk_far BKR8.out (p := ⟨go, 4, none⟩) NG.out _), Lib.hid (blk_put BKO8.out 4 _ rfl), Lib.hid (HB8.out.setCell (p := ⟨go, 4, none⟩) GG.out _)⟩
                    case measure => simp [intOf]
              · obtain rfl : k = 5 := by omega
                have h := H.out
                rw [if_neg (by rw [big_no (fun k hk => (show ∀ j, j < 5 → numAt l0 j ≤ 1099511627776 from HN) k hk)]; decide)] at h
                simp only [Prod.mk.injEq] at h
                obtain ⟨h1, h2, h3, h4, h5, h6⟩ := h
                subst h1 h2 h3 h4 h5 h6
                have BKR2 := Aside0.mk BKR
                have HB2 := Aside0.mk HB
                have BKO2 := Aside0.mk (show wr.heap[go]? = some (.cells #[.int .i64 (numAt l0 0 : Nat), .int .i64 (numAt l0 1 : Nat), .int .i64 (numAt l0 2 : Nat), .int .i64 (numAt l0 3 : Nat), .int .i64 (numAt l0 4 : Nat)] 115 (0, 0)) from BKO)
                clear BKR HB BKO HN H
                have y0 : wr.cell? ⟨go, 0, none⟩ = some (.int .i64 (numAt l0 0 : Nat)) := (blk_cell BKO2.out 0).trans rfl
                have y1 : wr.cell? ⟨go, 1, none⟩ = some (.int .i64 (numAt l0 1 : Nat)) := (blk_cell BKO2.out 1).trans rfl
                have y2 : wr.cell? ⟨go, 2, none⟩ = some (.int .i64 (numAt l0 2 : Nat)) := (blk_cell BKO2.out 2).trans rfl
                have y3 : wr.cell? ⟨go, 3, none⟩ = some (.int .i64 (numAt l0 3 : Nat)) := (blk_cell BKO2.out 3).trans rfl
                have y4 : wr.cell? ⟨go, 4, none⟩ = some (.int .i64 (numAt l0 4 : Nat)) := (blk_cell BKO2.out 4).trans rfl
                have z0 : wr.cell? ⟨w.heap.size, 0, none⟩ = some (.int .i64 0) := (blk_cell BKR2.out 0).trans rfl
                have f0 := blk_frozen BKR2.out 0
                have z1 : wr.cell? ⟨w.heap.size, 1, none⟩ = some (.int .i64 0) := (blk_cell BKR2.out 1).trans rfl
                have f1 := blk_frozen BKR2.out 1
                have z2 : wr.cell? ⟨w.heap.size, 2, none⟩ = some (.int .i64 0) := (blk_cell BKR2.out 2).trans rfl
                have f2 := blk_frozen BKR2.out 2
                have z3 : wr.cell? ⟨w.heap.size, 3, none⟩ = some (.int .i64 0) := (blk_cell BKR2.out 3).trans rfl
                have f3 := blk_frozen BKR2.out 3
                have z4 : wr.cell? ⟨w.heap.size, 4, none⟩ = some (.int .i64 0) := (blk_cell BKR2.out 4).trans rfl
                have f4 := blk_frozen BKR2.out 4
                go_wp2_with fail
                refine bodyPost_ret (results_ct rfl _ _ w.heap.size 23 #[.int .i64 (numAt l0 0 : Nat), .int .i64 (numAt l0 1 : Nat), .int .i64 (numAt l0 2 : Nat), .int .i64 (numAt l0 3 : Nat), .int .i64 (numAt l0 4 : Nat)] (0, 0) _ rfl (five_put BKR2.out) Try.underlying23 rfl (by kernel_rfl)) rfl ?_
                exact ⟨rfl, five_below HB2.out (Nat.le_refl _)⟩
      · rw [if_neg hns] at h
        have b1 : ((nm : Int) != (sm : Int)) = true := by rw [bne_iff_ne]; omega
        have b2 : (nm != sm) = true := by rw [bne_iff_ne]; exact hns
        clear hns
        simp only [Prod.mk.injEq] at h
        obtain ⟨h1, h2, h3, h4, h5, h6⟩ := h
        subst h1 h2 h3 h4 h5 h6
        go_quiet (first | (go_at_call 71; exact Calls.quiet_of (HQ1.out _)) | (go_at_call 70; exact Calls.quiet_of (HQ2.out _)))
        obtain ⟨W2, hW2⟩ : ∃ W2, W2 = W1.drewN nq := ⟨_, rfl⟩
        have hb2 : Below W1.heap.size W1 W2 := by rw [hW2]; exact pw_below_drewN (Below.refl _ _) _
        have BKR2 := Aside0.mk (blk_below BKR.out hb2)
        have HB2 := Aside0.mk (below_step HB.out hb2)
        rw [← hW2]
        clear hW2 hb2 BKR HB HQ1 HQ2 hcut1 hcut2
        have z0 : W2.cell? ⟨w.heap.size, 0, none⟩ = some (.int .i64 0) := (blk_cell BKR2.out 0).trans rfl
        have f0 := blk_frozen BKR2.out 0
        have z1 : W2.cell? ⟨w.heap.size, 1, none⟩ = some (.int .i64 0) := (blk_cell BKR2.out 1).trans rfl
        have f1 := blk_frozen BKR2.out 1
        have z2 : W2.cell? ⟨w.heap.size, 2, none⟩ = some (.int .i64 0) := (blk_cell BKR2.out 2).trans rfl
        have f2 := blk_frozen BKR2.out 2
        have z3 : W2.cell? ⟨w.heap.size, 3, none⟩ = some (.int .i64 0) := (blk_cell BKR2.out 3).trans rfl
        have f3 := blk_frozen BKR2.out 3
        have z4 : W2.cell? ⟨w.heap.size, 4, none⟩ = some (.int .i64 0) := (blk_cell BKR2.out 4).trans rfl
        have f4 := blk_frozen BKR2.out 4
        go_wp2_with fail
        refine bodyPost_ret (results_ct rfl _ _ w.heap.size 23 #[.int .i64 0, .int .i64 0, .int .i64 0, .int .i64 0, .int .i64 0] (0, 0) _ rfl (five_put BKR2.out) Try.underlying23 rfl (by kernel_rfl)) rfl ?_
        exact ⟨rfl, five_below HB2.out (Nat.le_refl _)⟩
    · rw [if_neg hm] at h
      simp only [Prod.mk.injEq] at h
      obtain ⟨h1, h2, h3, h4, h5, h6⟩ := h
      subst h1 h2 h3 h4 h5 h6
      have hsb' : sb = false := HSB.out.trans (decide_eq_false hm)
      subst hsb'
      have hsn : ((strOfNums (l0.take 4)).toList != ([116, 115, 98, 49] : List UInt8)) = true := by unfold bne; rw [hsb]; rfl
      clear hm HSB HSTR
      have BKR' := BKR.out
      rw [HW1.out] at BKR'
      have HB' := HB.out
      rw [HW1.out] at HB'
      have BKR2 := Aside0.mk BKR'
      have HB2 := Aside0.mk HB'
      clear BKR' HB' HW1 BKR HB
      go_enter Try.func42, Try.ntmps42
      go_wp2_with fail
      refine bodyPost_ret (results_ct rfl _ _ w.heap.size 23 #[.int .i64 0, .int .i64 0, .int .i64 0, .int .i64 0, .int .i64 0] (0, 0) _ rfl (blk_new _ _) Try.underlying23 rfl (by kernel_rfl)) rfl ?_
      exact ⟨rfl, below_alloc (Below.refl _ _) _⟩
  · rw [if_neg hl] at h
    simp only [Prod.mk.injEq] at h
    obtain ⟨h1, h2, h3, h4, h5, h6⟩ := h
    subst h1 h2 h3 h4 h5 h6
    have hb : ((l0.length : Int) != 64) = true := by rw [bne_iff_ne]; omega
    clear hl
    go_enter Try.func42, Try.ntmps42
    go_wp2_with fail
    refine bodyPost_ret (results_ct rfl _ _ w.heap.size 23 #[.int .i64 0, .int .i64 0, .int .i64 0, .int .i64 0, .int .i64 0] (0, 0) _ rfl (blk_new _ _) Try.underlying23 rfl (by kernel_rfl)) rfl ?_
    exact ⟨rfl, below_alloc (Below.refl _ _) _⟩
end Go.Proofs.Ytiiphlfgdkjjiaa.Q
