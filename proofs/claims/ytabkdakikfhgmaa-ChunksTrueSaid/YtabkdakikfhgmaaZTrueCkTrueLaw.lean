/- ChunksTrue, walked by hand: it answers true; no condition but that octets are octets and rows no longer than a machine holds. -/
import Derived.Test.YtabkdakikfhgmaaZTrueCkAdd
import Derived.Test.YtabkdakikfhgmaaZTrueAlive18
import Derived.Test.YtabkdakikfhgmaaZTrueQ19
import Derived.Test.YtabkdakikfhgmaaZTrueQ17
namespace Go.Proofs.Ytabkdakikfhgmaa.Q
open Go.RowKit Go.Shelf Go.Proofs.YtabkdakikfhgmaaW.PrintWords Go.Proofs.YtabkdakikfhgmaaW.PrintLast Go.Proofs.YtabkdakikfhgmaaW.PrintMore
open Go.Proofs.Ytabkdakikfhgmaa.CrcP
set_option linter.unusedVariables false
set_option linter.unusedSimpArgs false

def okC (x : S50) : Bool := octs x.f3 && decide (x.f3.length < 140737488355328)
def transeptlaw18_ChunksTrue.f (k : Nat) (l0 : List S50) : Option Bool := if l0.all okC = true then some true else none
theorem okc_at {l0 : List S50} (h : l0.all okC = true) (k : Nat) (hk : k < l0.length) : octs (rd_T50 l0 (k : Int)).f3 = true ∧ (rd_T50 l0 (k : Int)).f3.length < 140737488355328 := by
  have hm := List.all_eq_true.1 h l0[k] (List.getElem_mem hk)
  have e : rd_T50 l0 (k : Int) = l0[k] := by
    unfold rd_T50
    rw [Int.toNat_natCast, List.getD_eq_getElem?_getD, List.getElem?_eq_getElem hk, Option.getD_some]
  rw [e]
  unfold okC at hm
  rw [Bool.and_eq_true, decide_eq_true_eq] at hm
  exact hm
/-- Nothing but the normal way out. -/
def onNormalT (p : Act → World → Prop) : Exit → Act → World → Prop
  | .normal, a, w => p a w
  | _, _, _ => False
theorem onNormalT_of {p : Act → World → Prop} {a : Act} {w : World} (h : p a w) : onNormalT p .normal a w := h
theorem onNormalT_elim {p : Act → World → Prop} {Q : Exit → Act → World → Prop} (h : ∀ a w, p a w → Q .normal a w) : ∀ e a w, onNormalT p e a w → Q e a w := fun e a w hp => by
  cases e <;> first | exact h a w hp | exact hp.elim
theorem slots_t (T : Array Value) (f : (Nat → Value) → Array Value) (B : Prop) (hf : T = f (fun i => T.getD i undef)) (hb : B) : ∃ vs, ({ tmps := T, defers := [] } : Act) = { tmps := f vs, defers := [] } ∧ B := ⟨fun i => T.getD i undef, by rw [← hf], hb⟩

def ckT.T7 : Bool × List (List Nat × List Nat) := (true, [([], []), ([], []), ([], []), ([1, 2], [1, 2]), ([3], [3]), ([4], [4]), ([0, 5, 5], [0, 5]), ([6], [6]), ([7], [7]), ([7], [7]), ([7], [7]), ([], []), ([11, 8, 6, 0, 1, 2, 3, 4, 5, 6, 7, 8, 11], [8, 11]), ([9, 12, 0, 1, 2, 3, 4, 5, 6, 7, 8, 9, 11, 12], [9]), ([10, 13, 0, 1, 2, 3, 4, 5, 6, 7, 8, 9, 10, 11, 12, 13], [10])])
def ckT.B7 : List Nat := [0, 0, 0, 6, 14, 30, 63, 127, 255, 255, 255, 0, 2559, 7167, 16383]
theorem ckT.tab7 : rtab .any (opsOf Try.f8 7) = ckT.T7 := by kernel_rfl
theorem ckT.bits7 : waitsOk ckT.T7.2 ckT.B7 = true := by kernel_rfl
def ckT.T11 : Bool × List (List Nat × List Nat) := (true, [([], []), ([0], [0]), ([1], [1]), ([2, 1], [1, 2]), ([1], [1]), ([1], [1]), ([4, 5, 1], [1, 4, 5]), ([6, 1], [1, 6]), ([7, 1], [1, 7]), ([3, 8, 1], [1, 3, 8]), ([9, 1, 1], [1, 9]), ([10], [10]), ([11, 10], [10, 11]), ([12, 10, 10], [10, 12]), ([10], [10]), ([10], [10]), ([14, 15, 10], [10, 14, 15]), ([16, 10], [10, 16]), ([17, 10], [10, 17]), ([13, 18, 10], [10, 13, 18]), ([10, 19, 1], [1, 10, 19]), ([1, 20], [1, 20])])
def ckT.B11 : List Nat := [0, 1, 3, 7, 3, 3, 51, 115, 243, 511, 1023, 2047, 4095, 8191, 2047, 2047, 51199, 116735, 247807, 524287, 1048575, 2097151]
theorem ckT.tab11 : rtab .any (opsOf Try.f8 11) = ckT.T11 := by kernel_rfl
theorem ckT.bits11 : waitsOk ckT.T11.2 ckT.B11 = true := by kernel_rfl
set_option maxHeartbeats 16000000 in
set_option maxRecDepth 100000 in
theorem transeptlaw18_ChunksTrue.calls (k : Nat) (A0 : Option Addr) (c0 : Nat) (l0 : List S50) (r : Bool) (w : World) (hr0 : Kd.C k50 w A0 l0.length l0) (hc0 : l0.length ≤ c0) (h : transeptlaw18_ChunksTrue.f k l0 = some r) :
    Calls Try.prog 8 #[.slice A0 l0.length c0] w fun e w' => e = .returned (.bool r) ∧ Below w.heap.size w w' := by
  have hu := Try.underlying45
  have hur := Try.underlying50
  unfold transeptlaw18_ChunksTrue.f at h
  have hoo : l0.all okC = true := by
    by_cases hb : l0.all okC = true
    · exact hb
    · rw [if_neg hb] at h; cases h
  rw [if_pos hoo] at h
  obtain rfl := Option.some.inj h
  obtain ⟨n, hn⟩ : ∃ n, n = l0.length := ⟨_, rfl⟩
  have hnm : n ≤ 9223372036854775807 := by rw [hn]; exact Kd.C_max hr0
  have HN := Aside0.mk hn
  rw [← hn] at hr0 hc0 ⊢
  have HR := Aside0.mk hr0
  have HC := Aside0.mk hc0
  have HO := Aside0.mk hoo
  clear h hoo hr0 hn
  go_enter Try.func8, Try.ntmps8
  go_wp2_with fail
  refine (transeptlaw18_alive.calls true w rfl).mono ?_
  rintro e w1 ⟨rfl, hb⟩
  have HB1 := Aside0.mk hb
  clear hb
  go_wp2_with fail
  refine (chunks_Begin.calls 0 0 [] w1 rfl).mono ?_
  rintro e w2 ⟨v2, rfl, hv2, hb⟩
  obtain ⟨Ap, cp, ev⟩ := Kd.R_slice hv2
  subst ev
  obtain ⟨gp, hgp⟩ : ∃ gp, gp = w2.heap.size := ⟨_, rfl⟩
  obtain ⟨W3, hW3⟩ : ∃ W3, W3 = w2.alloc (.cells #[.int .i64 0, .int .u32 0, .slice Ap ([] : List Int).length cp] 45) := ⟨_, rfl⟩
  have hb3 : Below w2.heap.size w2 W3 := by rw [hW3]; exact below_alloc (Below.refl _ _) _
  have BKP := Aside0.mk (show W3.heap[gp]? = some (.cells #[.int .i64 0, .int .u32 0, .slice Ap ([] : List Int).length cp] 45 (0, 0)) from by rw [hW3, hgp]; exact blk_new _ _)
  have HV := Aside0.mk (Kd.R_below (Kd.R_lower hv2 HB1.out.size) hb3)
  have HB3 := Aside0.mk (below_step (below_step HB1.out hb) hb3)
  have GP := Aside0.mk (show w.heap.size ≤ gp from by rw [hgp]; exact (below_step HB1.out hb).size)
  have HW := Aside0.mk hW3
  have HG := Aside0.mk hgp
  clear hb hb3 hv2 HB1 hW3 hgp
  go_wp2_with fail
  rw [← HG.out]
  have hW' : w2.alloc (.cells #[.int .i64 0, .int .u32 0, .slice Ap 0 cp] 45) = W3 := HW.out.symm
  rw [hW']
  clear HW HG hW'
  go_loopw [4] (fun i wr => ∃ (k : Nat) (T S : Int) (D : List Int) (A : Option Addr) (c : Nat), k ≤ n ∧ i = .int .i64 (k : Int) ∧ Hid (wr.heap[gp]? = some (.cells #[.int .i64 T, .int .u32 S, .slice A D.length c] 45 (0, 0))) ∧ Hid (Kd.R (Kd.int .u8) 5 wr w.heap.size (fun _ => True) (.slice A D.length c) D) ∧ Hid (octs D = true ∧ D.length ≤ 1048576) ∧ Hid (Below w.heap.size w wr)) (fun i _ => n - (intOf i).toNat)
  case atStart => exact ⟨0, 0, 0, [], Ap, cp, by omega, rfl, BKP.out, HV.out, ⟨rfl, by simp⟩, HB3.out⟩
  case round =>
    clear BKP HV HB3
    obtain ⟨k, T, S, D, A, c, hk, rfl, BKP, HV, HD, HB⟩ := hrel
    by_cases hlt : k < n
    · have hkl : k < l0.length := by rw [← HN.out]; exact hlt
      have hok := okc_at HO.out k hkl
      obtain ⟨ad, A3, c3, rfl, h0, h1, h2, h3, hl3, hC3⟩ := at_T50 (Kd.C_below HR.out HB) (k : Int) (by omega) (by omega)
      rw [Int.toNat_natCast] at h0 h1 h2 h3
      obtain ⟨⟨T', S', O, C⟩, hx⟩ : ∃ x, x = rd_T50 l0 (k : Int) := ⟨_, rfl⟩
      rw [← hx] at h0 h1 h2 h3 hl3 hC3 hok
      dsimp only at h0 h1 h2 h3 hl3 hC3 hok
      obtain ⟨q1, q2, q3, is, e, hadd, hres⟩ := add_good T S T' S' O D C HD.1 hok.1 HD.2 hok.2
      have X0 := Aside0.mk (show wr.drew.cell? (ad.add (k * 4)) = some (.int .i64 T') from h0)
      have X1 := Aside0.mk (show wr.drew.cell? ⟨(ad.add (k * 4)).block, (ad.add (k * 4)).off + 1, none⟩ = some (.int .u32 S') from h1)
      have X2 := Aside0.mk (show wr.drew.cell? ⟨(ad.add (k * 4)).block, (ad.add (k * 4)).off + 2, none⟩ = some (.int .i64 O) from h2)
      have X3 := Aside0.mk (show wr.drew.cell? ⟨(ad.add (k * 4)).block, (ad.add (k * 4)).off + 3, none⟩ = some (.slice A3 C.length c3) from h3)
      have XC := Aside0.mk (Kd.C_drew hC3)
      have XL := Aside0.mk hl3
      have BKP := Aside0.mk (blk_drew BKP)
      have HV := Aside0.mk (Kd.R_drew HV)
      have HB := Aside0.mk (below_drew1 HB)
      have HA := Aside0.mk hadd
      have HRES := Aside0.mk hres
      have HOK := Aside0.mk hok
      have hk1 : decide ((k : Int) < (n : Int)) = true := decide_eq_true (by omega)
      have HCOPY := Aside0.mk (show transeptlaw18_ofChunk.f T' S' O C = some (T', S', O, C) from by
        unfold transeptlaw18_ofChunk.f transeptplain_CopyBytes.f
        rw [if_pos (by simpa using hok.2)]
        rfl)
      have HX := Aside0.mk hx
      clear h0 h1 h2 h3 hl3 hC3 hadd hres hok hx hkl
      go_wp2_with fail
      refine start_ (n := 15) (S := fun w' => w'.cell? ⟨gp, 0, none⟩ = some (.int .i64 T) ∧ w'.cell? ⟨gp, 1, none⟩ = some (.int .u32 S) ∧ w'.cell? ⟨gp, 2, none⟩ = some (.slice A D.length c) ∧ w'.cell? (ad.add (k * 4)) = some (.int .i64 T') ∧ w'.cell? ⟨(ad.add (k * 4)).block, (ad.add (k * 4)).off + 1, none⟩ = some (.int .u32 S') ∧ w'.cell? ⟨(ad.add (k * 4)).block, (ad.add (k * 4)).off + 2, none⟩ = some (.int .i64 O) ∧ w'.cell? ⟨(ad.add (k * 4)).block, (ad.add (k * 4)).off + 3, none⟩ = some (.slice A3 C.length c3)) (ds := [12]) #[false, false, false, false, false, false, false, false, false, false, false, false, false, false, false] (by kernel_rfl) rfl rfl ⟨(blk_cell BKP.out 0).trans rfl, (blk_cell BKP.out 1).trans rfl, (blk_cell BKP.out 2).trans rfl, X0.out, X1.out, X2.out, X3.out⟩ (fun hHeld => ?_)
      refine with_tabW ckT.tab7 ckT.bits7 (fun HT_ HW_ => ?_)
      refine pure_ (i := 1) (N := some 19) (v := ?_) (a' := ?_) #[false, true, false, false, false, false, false, false, false, false, false, false, false, false, false] rfl rfl (any_of HT_.out (by kernel_rfl)) (fun _ _ _ h => h) (Or.inl ⟨by rfl, ?_⟩) ?_ ?_
      rotate_left
      · intro w'
        go_simp
        with_reducible rfl
      rotate_left
      · simp only [Act.put, List.setIfInBounds_toArray, List.set_cons_zero, List.set_cons_succ, i64_w, i32_w]
        rfl
      refine pure_ (i := 2) (N := some 20) (v := ?_) (a' := ?_) #[false, true, true, false, false, false, false, false, false, false, false, false, false, false, false] rfl rfl (any_of HT_.out (by kernel_rfl)) (fun _ _ _ h => h) (Or.inl ⟨by rfl, ?_⟩) ?_ ?_
      rotate_left
      · intro w'
        go_simp
        with_reducible rfl
      rotate_left
      · simp only [Act.put, List.setIfInBounds_toArray, List.set_cons_zero, List.set_cons_succ, i64_w, i32_w]
        rfl
      refine pure_ (i := 3) (N := some 21) (v := ?_) (a' := ?_) #[false, true, true, true, false, false, false, false, false, false, false, false, false, false, false] rfl rfl (any_of HT_.out (by kernel_rfl)) (fun _ _ _ h => h) (Or.inl ⟨by rfl, ?_⟩) ?_ ?_
      rotate_left
      · intro w'
        go_simp
        with_reducible rfl
      rotate_left
      · simp only [Act.put, List.setIfInBounds_toArray, List.set_cons_zero, List.set_cons_succ, i64_w, i32_w]
        rfl
      refine take_ (i := 0) (N := some 18) (v := ?_) (a' := ?_) #[true, true, true, true, false, false, false, false, false, false, false, false, false, false, false] rfl rfl (take_ofW HT_.out HW_.out (by kernel_rfl)) (fun _ _ _ h => h) (Or.inl ⟨by rfl, ?_⟩) hHeld ?_ ?_
      rotate_left
      · rintro w' ⟨s0, s1, s2, s3, s4, s5, s6⟩
        go_simp
        with_reducible rfl
      rotate_left
      · simp only [Act.put, List.setIfInBounds_toArray, List.set_cons_zero, List.set_cons_succ, i64_w, i32_w]
        rfl
      refine take_ (i := 4) (N := some 22) (v := ?_) (a' := ?_) #[true, true, true, true, true, false, false, false, false, false, false, false, false, false, false] rfl rfl (take_ofW HT_.out HW_.out (by kernel_rfl)) (fun _ _ _ h => h) (Or.inl ⟨by rfl, ?_⟩) hHeld ?_ ?_
      rotate_left
      · rintro w' ⟨s0, s1, s2, s3, s4, s5, s6⟩
        go_simp
        with_reducible rfl
      rotate_left
      · simp only [Act.put, List.setIfInBounds_toArray, List.set_cons_zero, List.set_cons_succ, i64_w, i32_w]
        rfl
      refine join_ (σ := Option Addr × Nat × Option Addr × Nat × Nat) 3 #[true, true, true, true, true, true, true, true, true, true, true, true, false, false, false] (fun s => [(23, .agg #[.int .i64 T', .int .u32 S', .int .i64 O, .slice s.1 C.length s.2.1]), (24, .tuple #[.agg #[.int .i64 q1, .int .u32 q2, .slice s.2.2.1 q3.length s.2.2.2.1], .bool is, .int .i64 e]), (5, .pointer (some ⟨s.2.2.2.2, 0, none⟩)), (17, .tuple #[.agg #[.int .i64 q1, .int .u32 q2, .slice s.2.2.1 q3.length s.2.2.2.1], .bool is, .int .i64 e]), (25, .agg #[.int .i64 q1, .int .u32 q2, .slice s.2.2.1 q3.length s.2.2.2.1]), (26, .bool is), (27, .int .i64 e)]) (fun s w' => Kd.R (Kd.int .u8) 5 w' w.heap.size (fun _ => True) (.slice s.2.2.1 q3.length s.2.2.2.1) q3 ∧ w'.heap[s.2.2.2.2]? = some (.cells #[.int .i64 0, .int .u32 0, .slice none 0 0] 45 (0, 0)) ∧ w'.heap[gp]? = some (.cells #[.int .i64 T, .int .u32 S, .slice A D.length c] 45 (0, 0)) ∧ Kd.R (Kd.int .u8) 5 w' w.heap.size (fun _ => True) (.slice A D.length c) D ∧ Below w.heap.size w w' ∧ w.heap.size ≤ s.2.2.2.2 ∧ gp ≠ s.2.2.2.2 ∧ w'.cell? (ad.add (k * 4)) = some (.int .i64 T') ∧ w'.cell? ⟨(ad.add (k * 4)).block, (ad.add (k * 4)).off + 1, none⟩ = some (.int .u32 S') ∧ w'.cell? ⟨(ad.add (k * 4)).block, (ad.add (k * 4)).off + 2, none⟩ = some (.int .i64 O) ∧ w'.cell? ⟨(ad.add (k * 4)).block, (ad.add (k * 4)).off + 3, none⟩ = some (.slice A3 C.length c3)) ?_ ?_
      rotate_left
      · intro hCont
        refine two_ (i := 5) (j := 11) (Ni := some 23) (Nj := some 5) #[true, true, true, true, true, true, false, false, false, false, false, false, false, false, false] #[true, true, true, true, true, false, false, false, false, false, false, true, false, false, false] rfl rfl rfl rfl (two_of HT_.out (by kernel_rfl)) (by decide) (by decide) (fun K hK => ?_) (fun K hK => ?_)
        · skip
          refine goes_ Try.func21 (by kernel_rfl) rfl #[.agg #[.int .i64 T', .int .u32 S', .int .i64 O, .slice A3 C.length c3]] (by rfl) rfl rfl (by (try simp only [List.map_toArray, List.map_cons, List.map_nil]); rfl) ?_
          refine (transeptlaw18_ofChunk.calls T' S' O A3 c3 C T' S' O C _ XC.out XL.out HCOPY.out).mono ?_
          rintro e_ w5 ⟨v5, rfl, hv, hb⟩
          refine ⟨_, rfl, ?_⟩
          obtain ⟨A5, c5, eo⟩ := Kd.R_slice hv
          subst eo
          have HV5 := Aside0.mk (Kd.R_lower hv HB.out.size)
          replace BKP := Aside0.mk (blk_below BKP.out hb)
          replace HV := Aside0.mk (Kd.R_below HV.out hb)
          replace X0 := Aside0.mk (pw_cell_below hb X0.out)
          replace X1 := Aside0.mk (pw_cell_below hb X1.out)
          replace X2 := Aside0.mk (pw_cell_below hb X2.out)
          replace X3 := Aside0.mk (pw_cell_below hb X3.out)
          replace XC := Aside0.mk (Kd.C_below XC.out hb)
          replace HB := Aside0.mk (below_step HB.out hb)
          clear hb hv
          refine hK.out _ _ ⟨(blk_cell BKP.out 0).trans rfl, (blk_cell BKP.out 1).trans rfl, (blk_cell BKP.out 2).trans rfl, X0.out, X1.out, X2.out, X3.out⟩ (fun hHeld => ?_)
          clear hK K
          refine norm_ (a' := ?_) ?_ ?_
          rotate_left
          · show Act.put _ (some 23) _ = _
            simp only [Act.put, List.setIfInBounds_toArray, List.set_cons_zero, List.set_cons_succ, i64_w, i32_w]
            rfl
          refine two_ (i := 6) (j := 11) (Ni := some 24) (Nj := some 5) #[true, true, true, true, true, true, true, false, false, false, false, false, false, false, false] #[true, true, true, true, true, true, false, false, false, false, false, true, false, false, false] rfl rfl rfl rfl (two_of HT_.out (by kernel_rfl)) (by decide) (by decide) (fun K hK => ?_) (fun K hK => ?_)
          · skip
            refine goes_ Try.func20 (by kernel_rfl) rfl #[.agg #[.int .i64 T, .int .u32 S, .slice A D.length c], .agg #[.int .i64 T', .int .u32 S', .int .i64 O, .slice A5 C.length c5]] (by rfl) rfl rfl (by (try simp only [List.map_toArray, List.map_cons, List.map_nil]); rfl) ?_
            refine (chunks_Add.calls 5 T S A c D T' S' O A5 c5 C q1 q2 q3 is e _ (Kd.R_reads' HV.out).2.2 (Kd.R_reads' HV.out).2.1 (Kd.R_reads' HV5.out).2.2 (Kd.R_reads' HV5.out).2.1 HA.out).mono ?_
            rintro e_ w6 ⟨v6, rfl, hv, hb⟩
            refine ⟨_, rfl, ?_⟩
            obtain ⟨A6, c6, eo⟩ := Kd.R_slice hv
            subst eo
            have HV6 := Aside0.mk (Kd.R_lower hv HB.out.size)
            replace BKP := Aside0.mk (blk_below BKP.out hb)
            replace HV := Aside0.mk (Kd.R_below HV.out hb)
            replace X0 := Aside0.mk (pw_cell_below hb X0.out)
            replace X1 := Aside0.mk (pw_cell_below hb X1.out)
            replace X2 := Aside0.mk (pw_cell_below hb X2.out)
            replace X3 := Aside0.mk (pw_cell_below hb X3.out)
            replace XC := Aside0.mk (Kd.C_below XC.out hb)
            replace HV5 := Aside0.mk (Kd.R_below HV5.out hb)
            replace HB := Aside0.mk (below_step HB.out hb)
            clear hb hv
            refine hK.out _ _ ⟨(blk_cell BKP.out 0).trans rfl, (blk_cell BKP.out 1).trans rfl, (blk_cell BKP.out 2).trans rfl, X0.out, X1.out, X2.out, X3.out⟩ (fun hHeld => ?_)
            clear hK K
            refine norm_ (a' := ?_) ?_ ?_
            rotate_left
            · show Act.put _ (some 24) _ = _
              simp only [Act.put, List.setIfInBounds_toArray, List.set_cons_zero, List.set_cons_succ, i64_w, i32_w]
              rfl
            refine pure_ (i := 7) (N := some 17) (v := ?_) (a' := ?_) #[true, true, true, true, true, true, true, true, false, false, false, false, false, false, false] rfl rfl (any_of HT_.out (by kernel_rfl)) (fun _ _ _ h => h) (Or.inl ⟨by rfl, ?_⟩) ?_ ?_
            rotate_left
            · intro w'
              go_simp
              with_reducible rfl
            rotate_left
            · simp only [Act.put, List.setIfInBounds_toArray, List.set_cons_zero, List.set_cons_succ, i64_w, i32_w]
              rfl
            refine pure_ (i := 8) (N := some 25) (v := ?_) (a' := ?_) #[true, true, true, true, true, true, true, true, true, false, false, false, false, false, false] rfl rfl (any_of HT_.out (by kernel_rfl)) (fun _ _ _ h => h) (Or.inl ⟨by rfl, ?_⟩) ?_ ?_
            rotate_left
            · intro w'
              go_simp
              with_reducible rfl
            rotate_left
            · simp only [Act.put, List.setIfInBounds_toArray, List.set_cons_zero, List.set_cons_succ, i64_w, i32_w]
              rfl
            refine pure_ (i := 9) (N := some 26) (v := ?_) (a' := ?_) #[true, true, true, true, true, true, true, true, true, true, false, false, false, false, false] rfl rfl (any_of HT_.out (by kernel_rfl)) (fun _ _ _ h => h) (Or.inl ⟨by rfl, ?_⟩) ?_ ?_
            rotate_left
            · intro w'
              go_simp
              with_reducible rfl
            rotate_left
            · simp only [Act.put, List.setIfInBounds_toArray, List.set_cons_zero, List.set_cons_succ, i64_w, i32_w]
              rfl
            refine pure_ (i := 10) (N := some 27) (v := ?_) (a' := ?_) #[true, true, true, true, true, true, true, true, true, true, true, false, false, false, false] rfl rfl (any_of HT_.out (by kernel_rfl)) (fun _ _ _ h => h) (Or.inl ⟨by rfl, ?_⟩) ?_ ?_
            rotate_left
            · intro w'
              go_simp
              with_reducible rfl
            rotate_left
            · simp only [Act.put, List.setIfInBounds_toArray, List.set_cons_zero, List.set_cons_succ, i64_w, i32_w]
              rfl
            refine one_ (i := 11) (N := some 5) #[true, true, true, true, true, true, true, true, true, true, true, true, false, false, false] rfl rfl (one_of HT_.out (by kernel_rfl)) (by decide) (fun K hK => ?_)
            refine box_step (by rfl) (N := 5) rfl (cs := #[.int .i64 0, .int .u32 0, .slice none 0 0]) (t := 45) ?hr ?_
            (case hr => first | (go_simp; done) | (go_simp; rfl))
            intro gt hgt w7 hbox hb
            have BKT := Aside0.mk hbox
            have GT := Aside0.mk (by have := HB.out.size; omega : w.heap.size ≤ gt)
            have NT := Aside0.mk (by have := blk_lt BKP.out; omega : gp ≠ gt)
            replace BKP := Aside0.mk (blk_below BKP.out hb)
            replace HV := Aside0.mk (Kd.R_below HV.out hb)
            replace X0 := Aside0.mk (pw_cell_below hb X0.out)
            replace X1 := Aside0.mk (pw_cell_below hb X1.out)
            replace X2 := Aside0.mk (pw_cell_below hb X2.out)
            replace X3 := Aside0.mk (pw_cell_below hb X3.out)
            replace XC := Aside0.mk (Kd.C_below XC.out hb)
            replace HV5 := Aside0.mk (Kd.R_below HV5.out hb)
            replace HV6 := Aside0.mk (Kd.R_below HV6.out hb)
            replace HB := Aside0.mk (below_step HB.out hb)
            clear hb hbox hgt
            refine hK.out _ _ ⟨(blk_cell BKP.out 0).trans rfl, (blk_cell BKP.out 1).trans rfl, (blk_cell BKP.out 2).trans rfl, X0.out, X1.out, X2.out, X3.out⟩ (fun hHeld => ?_)
            clear hK K
            refine norm_ (a' := ?_) ?_ ?_
            rotate_left
            · show Act.put _ (some 5) _ = _
              simp only [Act.put, List.setIfInBounds_toArray, List.set_cons_zero, List.set_cons_succ, i64_w, i32_w]
              rfl
            exact norm_ (by simp only [putAll, Act.put, List.setIfInBounds_toArray, List.set_cons_zero, List.set_cons_succ]) (hCont (A5, c5, A6, c6, gt) _ ⟨HV6.out, BKT.out, BKP.out, HV.out, HB.out, GT.out, NT.out, X0.out, X1.out, X2.out, X3.out⟩)
          · skip
            refine box_step (by rfl) (N := 5) rfl (cs := #[.int .i64 0, .int .u32 0, .slice none 0 0]) (t := 45) ?hr ?_
            (case hr => first | (go_simp; done) | (go_simp; rfl))
            intro gt hgt w7 hbox hb
            have BKT := Aside0.mk hbox
            have GT := Aside0.mk (by have := HB.out.size; omega : w.heap.size ≤ gt)
            have NT := Aside0.mk (by have := blk_lt BKP.out; omega : gp ≠ gt)
            replace BKP := Aside0.mk (blk_below BKP.out hb)
            replace HV := Aside0.mk (Kd.R_below HV.out hb)
            replace X0 := Aside0.mk (pw_cell_below hb X0.out)
            replace X1 := Aside0.mk (pw_cell_below hb X1.out)
            replace X2 := Aside0.mk (pw_cell_below hb X2.out)
            replace X3 := Aside0.mk (pw_cell_below hb X3.out)
            replace XC := Aside0.mk (Kd.C_below XC.out hb)
            replace HV5 := Aside0.mk (Kd.R_below HV5.out hb)
            replace HB := Aside0.mk (below_step HB.out hb)
            clear hb hbox hgt
            refine hK.out _ _ ⟨(blk_cell BKP.out 0).trans rfl, (blk_cell BKP.out 1).trans rfl, (blk_cell BKP.out 2).trans rfl, X0.out, X1.out, X2.out, X3.out⟩ (fun hHeld => ?_)
            clear hK K
            refine norm_ (a' := ?_) ?_ ?_
            rotate_left
            · show Act.put _ (some 5) _ = _
              simp only [Act.put, List.setIfInBounds_toArray, List.set_cons_zero, List.set_cons_succ, i64_w, i32_w]
              rfl
            refine one_ (i := 6) (N := some 24) #[true, true, true, true, true, true, true, false, false, false, false, true, false, false, false] rfl rfl (one_of HT_.out (by kernel_rfl)) (by decide) (fun K hK => ?_)
            refine goes_ Try.func20 (by kernel_rfl) rfl #[.agg #[.int .i64 T, .int .u32 S, .slice A D.length c], .agg #[.int .i64 T', .int .u32 S', .int .i64 O, .slice A5 C.length c5]] (by rfl) rfl rfl (by (try simp only [List.map_toArray, List.map_cons, List.map_nil]); rfl) ?_
            refine (chunks_Add.calls 5 T S A c D T' S' O A5 c5 C q1 q2 q3 is e _ (Kd.R_reads' HV.out).2.2 (Kd.R_reads' HV.out).2.1 (Kd.R_reads' HV5.out).2.2 (Kd.R_reads' HV5.out).2.1 HA.out).mono ?_
            rintro e_ w6 ⟨v6, rfl, hv, hb⟩
            refine ⟨_, rfl, ?_⟩
            obtain ⟨A6, c6, eo⟩ := Kd.R_slice hv
            subst eo
            have HV6 := Aside0.mk (Kd.R_lower hv HB.out.size)
            replace BKP := Aside0.mk (blk_below BKP.out hb)
            replace HV := Aside0.mk (Kd.R_below HV.out hb)
            replace X0 := Aside0.mk (pw_cell_below hb X0.out)
            replace X1 := Aside0.mk (pw_cell_below hb X1.out)
            replace X2 := Aside0.mk (pw_cell_below hb X2.out)
            replace X3 := Aside0.mk (pw_cell_below hb X3.out)
            replace XC := Aside0.mk (Kd.C_below XC.out hb)
            replace BKT := Aside0.mk (blk_below BKT.out hb)
            replace HV5 := Aside0.mk (Kd.R_below HV5.out hb)
            replace HB := Aside0.mk (below_step HB.out hb)
            clear hb hv
            refine hK.out _ _ ⟨(blk_cell BKP.out 0).trans rfl, (blk_cell BKP.out 1).trans rfl, (blk_cell BKP.out 2).trans rfl, X0.out, X1.out, X2.out, X3.out⟩ (fun hHeld => ?_)
            clear hK K
            refine norm_ (a' := ?_) ?_ ?_
            rotate_left
            · show Act.put _ (some 24) _ = _
              simp only [Act.put, List.setIfInBounds_toArray, List.set_cons_zero, List.set_cons_succ, i64_w, i32_w]
              rfl
            refine pure_ (i := 7) (N := some 17) (v := ?_) (a' := ?_) #[true, true, true, true, true, true, true, true, false, false, false, true, false, false, false] rfl rfl (any_of HT_.out (by kernel_rfl)) (fun _ _ _ h => h) (Or.inl ⟨by rfl, ?_⟩) ?_ ?_
            rotate_left
            · intro w'
              go_simp
              with_reducible rfl
            rotate_left
            · simp only [Act.put, List.setIfInBounds_toArray, List.set_cons_zero, List.set_cons_succ, i64_w, i32_w]
              rfl
            refine pure_ (i := 8) (N := some 25) (v := ?_) (a' := ?_) #[true, true, true, true, true, true, true, true, true, false, false, true, false, false, false] rfl rfl (any_of HT_.out (by kernel_rfl)) (fun _ _ _ h => h) (Or.inl ⟨by rfl, ?_⟩) ?_ ?_
            rotate_left
            · intro w'
              go_simp
              with_reducible rfl
            rotate_left
            · simp only [Act.put, List.setIfInBounds_toArray, List.set_cons_zero, List.set_cons_succ, i64_w, i32_w]
              rfl
            refine pure_ (i := 9) (N := some 26) (v := ?_) (a' := ?_) #[true, true, true, true, true, true, true, true, true, true, false, true, false, false, false] rfl rfl (any_of HT_.out (by kernel_rfl)) (fun _ _ _ h => h) (Or.inl ⟨by rfl, ?_⟩) ?_ ?_
            rotate_left
            · intro w'
              go_simp
              with_reducible rfl
            rotate_left
            · simp only [Act.put, List.setIfInBounds_toArray, List.set_cons_zero, List.set_cons_succ, i64_w, i32_w]
              rfl
            refine pure_ (i := 10) (N := some 27) (v := ?_) (a' := ?_) #[true, true, true, true, true, true, true, true, true, true, true, true, false, false, false] rfl rfl (any_of HT_.out (by kernel_rfl)) (fun _ _ _ h => h) (Or.inl ⟨by rfl, ?_⟩) ?_ ?_
            rotate_left
            · intro w'
              go_simp
              with_reducible rfl
            rotate_left
            · simp only [Act.put, List.setIfInBounds_toArray, List.set_cons_zero, List.set_cons_succ, i64_w, i32_w]
              rfl
            exact norm_ (by simp only [putAll, Act.put, List.setIfInBounds_toArray, List.set_cons_zero, List.set_cons_succ]) (hCont (A5, c5, A6, c6, gt) _ ⟨HV6.out, BKT.out, BKP.out, HV.out, HB.out, GT.out, NT.out, X0.out, X1.out, X2.out, X3.out⟩)
        · skip
          refine box_step (by rfl) (N := 5) rfl (cs := #[.int .i64 0, .int .u32 0, .slice none 0 0]) (t := 45) ?hr ?_
          (case hr => first | (go_simp; done) | (go_simp; rfl))
          intro gt hgt w7 hbox hb
          have BKT := Aside0.mk hbox
          have GT := Aside0.mk (by have := HB.out.size; omega : w.heap.size ≤ gt)
          have NT := Aside0.mk (by have := blk_lt BKP.out; omega : gp ≠ gt)
          replace BKP := Aside0.mk (blk_below BKP.out hb)
          replace HV := Aside0.mk (Kd.R_below HV.out hb)
          replace X0 := Aside0.mk (pw_cell_below hb X0.out)
          replace X1 := Aside0.mk (pw_cell_below hb X1.out)
          replace X2 := Aside0.mk (pw_cell_below hb X2.out)
          replace X3 := Aside0.mk (pw_cell_below hb X3.out)
          replace XC := Aside0.mk (Kd.C_below XC.out hb)
          replace HB := Aside0.mk (below_step HB.out hb)
          clear hb hbox hgt
          refine hK.out _ _ ⟨(blk_cell BKP.out 0).trans rfl, (blk_cell BKP.out 1).trans rfl, (blk_cell BKP.out 2).trans rfl, X0.out, X1.out, X2.out, X3.out⟩ (fun hHeld => ?_)
          clear hK K
          refine norm_ (a' := ?_) ?_ ?_
          rotate_left
          · show Act.put _ (some 5) _ = _
            simp only [Act.put, List.setIfInBounds_toArray, List.set_cons_zero, List.set_cons_succ, i64_w, i32_w]
            rfl
          refine one_ (i := 5) (N := some 23) #[true, true, true, true, true, true, false, false, false, false, false, true, false, false, false] rfl rfl (one_of HT_.out (by kernel_rfl)) (by decide) (fun K hK => ?_)
          refine goes_ Try.func21 (by kernel_rfl) rfl #[.agg #[.int .i64 T', .int .u32 S', .int .i64 O, .slice A3 C.length c3]] (by rfl) rfl rfl (by (try simp only [List.map_toArray, List.map_cons, List.map_nil]); rfl) ?_
          refine (transeptlaw18_ofChunk.calls T' S' O A3 c3 C T' S' O C _ XC.out XL.out HCOPY.out).mono ?_
          rintro e_ w5 ⟨v5, rfl, hv, hb⟩
          refine ⟨_, rfl, ?_⟩
          obtain ⟨A5, c5, eo⟩ := Kd.R_slice hv
          subst eo
          have HV5 := Aside0.mk (Kd.R_lower hv HB.out.size)
          replace BKP := Aside0.mk (blk_below BKP.out hb)
          replace HV := Aside0.mk (Kd.R_below HV.out hb)
          replace X0 := Aside0.mk (pw_cell_below hb X0.out)
          replace X1 := Aside0.mk (pw_cell_below hb X1.out)
          replace X2 := Aside0.mk (pw_cell_below hb X2.out)
          replace X3 := Aside0.mk (pw_cell_below hb X3.out)
          replace XC := Aside0.mk (Kd.C_below XC.out hb)
          replace BKT := Aside0.mk (blk_below BKT.out hb)
          replace HB := Aside0.mk (below_step HB.out hb)
          clear hb hv
          refine hK.out _ _ ⟨(blk_cell BKP.out 0).trans rfl, (blk_cell BKP.out 1).trans rfl, (blk_cell BKP.out 2).trans rfl, X0.out, X1.out, X2.out, X3.out⟩ (fun hHeld => ?_)
          clear hK K
          refine norm_ (a' := ?_) ?_ ?_
          rotate_left
          · show Act.put _ (some 23) _ = _
            simp only [Act.put, List.setIfInBounds_toArray, List.set_cons_zero, List.set_cons_succ, i64_w, i32_w]
            rfl
          refine one_ (i := 6) (N := some 24) #[true, true, true, true, true, true, true, false, false, false, false, true, false, false, false] rfl rfl (one_of HT_.out (by kernel_rfl)) (by decide) (fun K hK => ?_)
          refine goes_ Try.func20 (by kernel_rfl) rfl #[.agg #[.int .i64 T, .int .u32 S, .slice A D.length c], .agg #[.int .i64 T', .int .u32 S', .int .i64 O, .slice A5 C.length c5]] (by rfl) rfl rfl (by (try simp only [List.map_toArray, List.map_cons, List.map_nil]); rfl) ?_
          refine (chunks_Add.calls 5 T S A c D T' S' O A5 c5 C q1 q2 q3 is e _ (Kd.R_reads' HV.out).2.2 (Kd.R_reads' HV.out).2.1 (Kd.R_reads' HV5.out).2.2 (Kd.R_reads' HV5.out).2.1 HA.out).mono ?_
          rintro e_ w6 ⟨v6, rfl, hv, hb⟩
          refine ⟨_, rfl, ?_⟩
          obtain ⟨A6, c6, eo⟩ := Kd.R_slice hv
          subst eo
          have HV6 := Aside0.mk (Kd.R_lower hv HB.out.size)
          replace BKP := Aside0.mk (blk_below BKP.out hb)
          replace HV := Aside0.mk (Kd.R_below HV.out hb)
          replace X0 := Aside0.mk (pw_cell_below hb X0.out)
          replace X1 := Aside0.mk (pw_cell_below hb X1.out)
          replace X2 := Aside0.mk (pw_cell_below hb X2.out)
          replace X3 := Aside0.mk (pw_cell_below hb X3.out)
          replace XC := Aside0.mk (Kd.C_below XC.out hb)
          replace BKT := Aside0.mk (blk_below BKT.out hb)
          replace HV5 := Aside0.mk (Kd.R_below HV5.out hb)
          replace HB := Aside0.mk (below_step HB.out hb)
          clear hb hv
          refine hK.out _ _ ⟨(blk_cell BKP.out 0).trans rfl, (blk_cell BKP.out 1).trans rfl, (blk_cell BKP.out 2).trans rfl, X0.out, X1.out, X2.out, X3.out⟩ (fun hHeld => ?_)
          clear hK K
          refine norm_ (a' := ?_) ?_ ?_
          rotate_left
          · show Act.put _ (some 24) _ = _
            simp only [Act.put, List.setIfInBounds_toArray, List.set_cons_zero, List.set_cons_succ, i64_w, i32_w]
            rfl
          refine pure_ (i := 7) (N := some 17) (v := ?_) (a' := ?_) #[true, true, true, true, true, true, true, true, false, false, false, true, false, false, false] rfl rfl (any_of HT_.out (by kernel_rfl)) (fun _ _ _ h => h) (Or.inl ⟨by rfl, ?_⟩) ?_ ?_
          rotate_left
          · intro w'
            go_simp
            with_reducible rfl
          rotate_left
          · simp only [Act.put, List.setIfInBounds_toArray, List.set_cons_zero, List.set_cons_succ, i64_w, i32_w]
            rfl
          refine pure_ (i := 8) (N := some 25) (v := ?_) (a' := ?_) #[true, true, true, true, true, true, true, true, true, false, false, true, false, false, false] rfl rfl (any_of HT_.out (by kernel_rfl)) (fun _ _ _ h => h) (Or.inl ⟨by rfl, ?_⟩) ?_ ?_
          rotate_left
          · intro w'
            go_simp
            with_reducible rfl
          rotate_left
          · simp only [Act.put, List.setIfInBounds_toArray, List.set_cons_zero, List.set_cons_succ, i64_w, i32_w]
            rfl
          refine pure_ (i := 9) (N := some 26) (v := ?_) (a' := ?_) #[true, true, true, true, true, true, true, true, true, true, false, true, false, false, false] rfl rfl (any_of HT_.out (by kernel_rfl)) (fun _ _ _ h => h) (Or.inl ⟨by rfl, ?_⟩) ?_ ?_
          rotate_left
          · intro w'
            go_simp
            with_reducible rfl
          rotate_left
          · simp only [Act.put, List.setIfInBounds_toArray, List.set_cons_zero, List.set_cons_succ, i64_w, i32_w]
            rfl
          refine pure_ (i := 10) (N := some 27) (v := ?_) (a' := ?_) #[true, true, true, true, true, true, true, true, true, true, true, true, false, false, false] rfl rfl (any_of HT_.out (by kernel_rfl)) (fun _ _ _ h => h) (Or.inl ⟨by rfl, ?_⟩) ?_ ?_
          rotate_left
          · intro w'
            go_simp
            with_reducible rfl
          rotate_left
          · simp only [Act.put, List.setIfInBounds_toArray, List.set_cons_zero, List.set_cons_succ, i64_w, i32_w]
            rfl
          exact norm_ (by simp only [putAll, Act.put, List.setIfInBounds_toArray, List.set_cons_zero, List.set_cons_succ]) (hCont (A5, c5, A6, c6, gt) _ ⟨HV6.out, BKT.out, BKP.out, HV.out, HB.out, GT.out, NT.out, X0.out, X1.out, X2.out, X3.out⟩)
      clear BKP HV HB X0 X1 X2 X3 XC
      rintro ⟨A5, c5, A6, c6, gt⟩ w8 ⟨hv6, hbt, hbp, hv, hbb, hgt, hnt, x0, x1, x2, x3⟩
      dsimp only at hv6 hbt hbp hv hbb hgt hnt x0 x1 x2 x3
      have hz0 : w8.cell? ⟨gt, 0, none⟩ = some (.int .i64 0) := (blk_cell hbt 0).trans rfl
      have hz1 : w8.cell? ⟨gt, 1, none⟩ = some (.int .u32 0) := (blk_cell hbt 1).trans rfl
      have hz2 : w8.cell? ⟨gt, 2, none⟩ = some (.slice none 0 0) := (blk_cell hbt 2).trans rfl
      have hf0 := blk_frozen hbt 0
      have hf1 := blk_frozen hbt 1
      have hf2 := blk_frozen hbt 2
      refine norm_ (a' := ?_) ?_ ?_
      rotate_left
      · simp only [putAll, Act.put, List.setIfInBounds_toArray, List.set_cons_zero, List.set_cons_succ]
        rfl
      refine last_ (i := 12) (N := none) #[true, true, true, true, true, true, true, true, true, true, true, true, true, false, false] rfl rfl (one_of HT_.out (by kernel_rfl)) (by decide) (fun K hK => ?_)
      refine skip_ (w1 := ?_) (by rfl) rfl ?_ ?_
      rotate_left
      · go_simp
        rfl
      refine hK.out _ _ ?_
      clear hK K
      refine pure_ (i := 13) (N := some 6) (v := ?_) (a' := ?_) #[true, true, true, true, true, true, true, true, true, true, true, true, true, true, false] rfl rfl (any_of HT_.out (by kernel_rfl)) (fun _ _ _ h => h) (Or.inl ⟨by rfl, ?_⟩) ?_ ?_
      rotate_left
      · intro w'
        go_simp
        with_reducible rfl
      rotate_left
      · simp only [Act.put, List.setIfInBounds_toArray, List.set_cons_zero, List.set_cons_succ, i64_w, i32_w]
        rfl
      refine pure_ (i := 14) (N := some 7) (v := ?_) (a' := ?_) #[true, true, true, true, true, true, true, true, true, true, true, true, true, true, true] rfl rfl (any_of HT_.out (by kernel_rfl)) (fun _ _ _ h => h) (Or.inl ⟨by rfl, ?_⟩) ?_ ?_
      rotate_left
      · intro w'
        go_simp
        with_reducible rfl
      rotate_left
      · simp only [Act.put, List.setIfInBounds_toArray, List.set_cons_zero, List.set_cons_succ, i64_w, i32_w]
        rfl
      refine done_ (done_of HT_.out (by kernel_rfl)) ?_
      obtain ⟨wq, hwq⟩ : ∃ wq, wq = ((w8.setCell ⟨gt, 0, none⟩ (.int .i64 q1)).setCell ⟨gt, 1, none⟩ (.int .u32 q2)).setCell ⟨gt, 2, none⟩ (.slice A6 q3.length c6) := ⟨_, rfl⟩
      have BKQ := Aside0.mk (show wq.heap[gt]? = some (.cells #[.int .i64 q1, .int .u32 q2, .slice A6 q3.length c6] 45 (0, 0)) from by rw [hwq]; exact blk_put (blk_put (blk_put hbt 0 _ rfl) 1 _ rfl) 2 _ rfl)
      have BKP := Aside0.mk (show wq.heap[gp]? = some (.cells #[.int .i64 T, .int .u32 S, .slice A D.length c] 45 (0, 0)) from by rw [hwq]; exact blk_far (blk_far (blk_far hbp (p := ⟨gt, 0, none⟩) hnt _) (p := ⟨gt, 1, none⟩) hnt _) (p := ⟨gt, 2, none⟩) hnt _)
      have HV := Aside0.mk (show Kd.R (Kd.int .u8) 5 wq w.heap.size (fun _ => True) (.slice A D.length c) D from by rw [hwq]; exact Kd.R_set (Kd.R_set (Kd.R_set hv hbt (by decide) 0 _) (blk_put hbt 0 _ rfl) (by decide) 1 _) (blk_put (blk_put hbt 0 _ rfl) 1 _ rfl) (by decide) 2 _)
      have HQ := Aside0.mk (show Kd.R (Kd.int .u8) 5 wq w.heap.size (fun _ => True) (.slice A6 q3.length c6) q3 from by rw [hwq]; exact Kd.R_set (Kd.R_set (Kd.R_set hv6 hbt (by decide) 0 _) (blk_put hbt 0 _ rfl) (by decide) 1 _) (blk_put (blk_put hbt 0 _ rfl) 1 _ rfl) (by decide) 2 _)
      have HB := Aside0.mk (show Below w.heap.size w wq from by rw [hwq]; exact ((hbb.setCell (p := ⟨gt, 0, none⟩) hgt _).setCell (p := ⟨gt, 1, none⟩) hgt _).setCell (p := ⟨gt, 2, none⟩) hgt _)
      have NT := Aside0.mk hnt
      rw [← hwq]
      clear hwq hv6 hbt hbp hv hbb hnt x0 x1 x2 x3 hz0 hz1 hz2 hf0 hf1 hf2 hHeld HT_ HW_
      go_wp2_with fail
      refine (transeptlaw18_num.calls e e _ rfl).mono ?_
      rintro e_ w9 ⟨rfl, ⟨⟨m1, rfl⟩⟩⟩
      obtain ⟨W9, hW9⟩ : ∃ W9, W9 = wq.drewN m1 := ⟨_, rfl⟩
      have hb9 : Below wq.heap.size wq W9 := by rw [hW9]; exact pw_below_drewN (Below.refl _ _) _
      replace BKQ := Aside0.mk (blk_below BKQ.out hb9)
      replace BKP := Aside0.mk (blk_below BKP.out hb9)
      replace HV := Aside0.mk (Kd.R_below HV.out hb9)
      replace HQ := Aside0.mk (Kd.R_below HQ.out hb9)
      replace HB := Aside0.mk (below_step HB.out hb9)
      rw [← hW9]
      clear hb9 hW9
      by_cases he : e = 0
      · subst he
        obtain ⟨ad', A3', c3', e', x0, x1, x2, x3, hl3, hC3⟩ := at_T50 (Kd.C_below HR.out HB.out) (k : Int) (by omega) (by omega)
        obtain rfl : ad = ad' := by simpa using e'
        rw [← HX.out, Int.toNat_natCast] at x0 x1 x2 x3
        rw [← HX.out] at hl3 hC3
        dsimp only at x0 x1 x2 x3 hl3 hC3
        have y0 : W9.cell? ⟨gt, 0, none⟩ = some (.int .i64 q1) := (blk_cell BKQ.out 0).trans rfl
        have y2 : W9.cell? ⟨gt, 2, none⟩ = some (.slice A6 q3.length c6) := (blk_cell BKQ.out 2).trans rfl
        have p2 : W9.cell? ⟨gp, 2, none⟩ = some (.slice A D.length c) := (blk_cell BKP.out 2).trans rfl
        have hwr : wrap64 (O + (C.length : Int)) = O + (C.length : Int) := by
          rcases HRES.out.most with h | h
          · exact wrapi (by omega) (by omega)
          · exact absurd rfl h
        have bF : decide (q1 < (q3.length : Int)) = false := decide_eq_false (by have := HRES.out.fits rfl; omega)
        have HWH := Aside0.mk (HRES.out.whole rfl)
        have HWR := Aside0.mk hwr
        clear e' hl3 hC3 hwr
        go_wp2_with fail
        refine Code.wp_mono (Q := onNormalT (fun a' w' => ∃ vs : Nat → Value, a' = { tmps := #[.slice (some ad) n c0, undef, vs 2, .pointer (some ⟨gp, 0, none⟩), .int .i64 (k : Int), .pointer (some ⟨gt, 0, none⟩), .bool is, vs 7, .bool true, .bool false, .agg #[.int .i64 0, .int .u32 0, .slice Ap 0 cp], vs 11, vs 12, vs 13, vs 14, vs 15, vs 16, vs 17, vs 18, vs 19, vs 20, vs 21, vs 22, vs 23, vs 24, vs 25, vs 26, vs 27, vs 28, vs 29, vs 30, vs 31, vs 32, vs 33, vs 34, vs 35, vs 36, vs 37, vs 38, vs 39, vs 40, vs 41, vs 42, vs 43, vs 44, vs 45, vs 46, vs 47, vs 48, vs 49, vs 50, vs 51, vs 52, vs 53, vs 54, vs 55, vs 56, vs 57, vs 58, vs 59, vs 60, vs 61, vs 62, vs 63, vs 64, vs 65, vs 66, vs 67, vs 68, vs 69, vs 70, vs 71, vs 72, vs 73, vs 74, vs 75, vs 76, vs 77, vs 78, vs 79, vs 80, vs 81, .bool false, vs 83, vs 84, vs 85, vs 86, vs 87, vs 88, vs 89, vs 90, vs 91, vs 92, vs 93, vs 94, vs 95, vs 96, vs 97, vs 98, vs 99, vs 100, vs 101, vs 102, vs 103, vs 104, vs 105], defers := [] } ∧ ∃ m, w' = W9.drewN m)) (onNormalT_elim ?cont9) ?reg9
        case reg9 =>
          by_cases ca : (q3.length : Int) = q1
          rotate_left
          · as_aux_lemma =>
              obtain rfl : is = false := by rw [HWH.out]; exact decide_eq_false (fun h_ => ca h_.1)
              clear HWH
              have bA : ((q3.length : Int) == q1) = false := by simpa using ca
              clear ca
              go_quiet (fail)
              exact onNormalT_of (slots_t _ _ _ (by kernel_rfl) ⟨nq, rfl⟩)
          by_cases cb : O + (C.length : Int) = q1
          rotate_left
          · as_aux_lemma =>
              obtain rfl : is = false := by rw [HWH.out]; exact decide_eq_false (fun h_ => cb h_.2.1)
              clear HWH
              have bA : ((q3.length : Int) == q1) = true := by simpa using ca
              have bB : (wrap64 (O + (C.length : Int)) == q1) = false := by rw [HWR.out]; simpa using cb
              clear ca cb
              go_quiet (fail)
              exact onNormalT_of (slots_t _ _ _ (by kernel_rfl) ⟨nq, rfl⟩)
          by_cases cc : O = 0
          · as_aux_lemma =>
              obtain rfl : is = true := by rw [HWH.out]; exact decide_eq_true ⟨ca, cb, .inl cc⟩
              clear HWH
              have bA : ((q3.length : Int) == q1) = true := by simpa using ca
              have bB : (wrap64 (O + (C.length : Int)) == q1) = true := by rw [HWR.out]; simpa using cb
              have bC : (O == 0) = true := by simpa using cc
              clear ca cb cc
              go_quiet (fail)
              exact onNormalT_of (slots_t _ _ _ (by kernel_rfl) ⟨nq, rfl⟩)
          by_cases cd : O = (D.length : Int)
          · as_aux_lemma =>
              obtain rfl : is = true := by rw [HWH.out]; exact decide_eq_true ⟨ca, cb, .inr cd⟩
              clear HWH
              have bA : ((q3.length : Int) == q1) = true := by simpa using ca
              have bB : (wrap64 (O + (C.length : Int)) == q1) = true := by rw [HWR.out]; simpa using cb
              have bC : (O == 0) = false := by simpa using cc
              have bD : (O == (D.length : Int)) = true := by simpa using cd
              clear ca cb cc cd
              go_quiet (fail)
              exact onNormalT_of (slots_t _ _ _ (by kernel_rfl) ⟨nq, rfl⟩)
          · as_aux_lemma =>
              obtain rfl : is = false := by rw [HWH.out]; exact decide_eq_false (fun h_ => h_.2.2.elim cc cd)
              clear HWH
              have bA : ((q3.length : Int) == q1) = true := by simpa using ca
              have bB : (wrap64 (O + (C.length : Int)) == q1) = true := by rw [HWR.out]; simpa using cb
              have bC : (O == 0) = false := by simpa using cc
              have bD : (O == (D.length : Int)) = false := by simpa using cd
              clear ca cb cc cd
              go_quiet (fail)
              exact onNormalT_of (slots_t _ _ _ (by kernel_rfl) ⟨nq, rfl⟩)
        case cont9 =>
          rintro a' w10 ⟨vs, rfl, m9, rfl⟩
          obtain ⟨W10, hW10⟩ : ∃ W10, W10 = W9.drewN m9 := ⟨_, rfl⟩
          have hb10 : Below W9.heap.size W9 W10 := by rw [hW10]; exact pw_below_drewN (Below.refl _ _) _
          replace BKQ := Aside0.mk (blk_below BKQ.out hb10)
          replace BKP := Aside0.mk (blk_below BKP.out hb10)
          replace HQ := Aside0.mk (Kd.R_below HQ.out hb10)
          replace HB := Aside0.mk (below_step HB.out hb10)
          have Z0 := Aside0.mk (show W10.drew.cell? (ad.add (k * 4)) = some (.int .i64 T') from pw_cell_below hb10 x0)
          have Z1 := Aside0.mk (show W10.drew.cell? ⟨(ad.add (k * 4)).block, (ad.add (k * 4)).off + 1, none⟩ = some (.int .u32 S') from pw_cell_below hb10 x1)
          rw [← hW10]
          clear hb10 hW10 bF HWH y0 y2 p2 x0 x1 x2 x3 HV
          go_wp2_with fail
          refine Code.wp_mono (Q := onNormalT (fun a' w' => ∃ vs : Nat → Value, a' = { tmps := #[.slice (some ad) n c0, undef, vs 2, .pointer (some ⟨gp, 0, none⟩), .int .i64 (k : Int), .pointer (some ⟨gt, 0, none⟩), .bool is, vs 7, .bool true, .bool false, .agg #[.int .i64 0, .int .u32 0, .slice Ap 0 cp], vs 11, vs 12, vs 13, vs 14, vs 15, vs 16, vs 17, vs 18, vs 19, vs 20, vs 21, vs 22, vs 23, vs 24, vs 25, vs 26, vs 27, vs 28, vs 29, vs 30, vs 31, vs 32, vs 33, vs 34, vs 35, vs 36, vs 37, vs 38, vs 39, vs 40, vs 41, vs 42, vs 43, vs 44, vs 45, vs 46, vs 47, vs 48, vs 49, vs 50, vs 51, vs 52, vs 53, vs 54, vs 55, vs 56, vs 57, vs 58, vs 59, vs 60, vs 61, vs 62, vs 63, vs 64, vs 65, vs 66, vs 67, vs 68, vs 69, vs 70, vs 71, vs 72, vs 73, vs 74, vs 75, vs 76, vs 77, vs 78, vs 79, vs 80, vs 81, vs 82, vs 83, vs 84, vs 85, vs 86, vs 87, vs 88, vs 89, vs 90, vs 91, vs 92, vs 93, vs 94, vs 95, vs 96, vs 97, vs 98, vs 99, vs 100, vs 101, vs 102, vs 103, .bool false, vs 105], defers := [] } ∧ Below W10.heap.size W10 w')) (onNormalT_elim ?cont11) ?reg11
          case reg11 =>
            rcases Bool.eq_false_or_eq_true is with rfl | rfl
            · as_aux_lemma =>
                obtain ⟨hq, hsum⟩ := HRES.out.said rfl rfl
                have bQ : (q1 != T') = false := by simpa using hq
                have HSUM := Aside0.mk hsum
                have BQd := Aside0.mk (blk_drew BKQ.out)
                have HQd := Aside0.mk (Kd.R_drew HQ.out)
                have HBg0 := Aside0.mk (below_drew1 (Below.refl W10.heap.size W10))
                clear hq hsum
                refine start_ (n := 22) (S := fun w' => w'.cell? ⟨gt, 0, none⟩ = some (.int .i64 q1) ∧ w'.cell? ⟨gt, 2, none⟩ = some (.slice A6 q3.length c6) ∧ w'.cell? (ad.add (k * 4)) = some (.int .i64 T') ∧ w'.cell? ⟨(ad.add (k * 4)).block, (ad.add (k * 4)).off + 1, none⟩ = some (.int .u32 S')) (ds := []) #[false, false, false, false, false, false, false, false, false, false, false, false, false, false, false, false, false, false, false, false, false, false] (by kernel_rfl) rfl rfl ⟨(blk_cell BQd.out 0).trans rfl, (blk_cell BQd.out 2).trans rfl, Z0.out, Z1.out⟩ (fun hHeld => ?_)
                refine with_tabW ckT.tab11 ckT.bits11 (fun HT_ HW_ => ?_)
                refine pure_ (i := 0) (N := some 83) (v := ?_) (a' := ?_) #[true, false, false, false, false, false, false, false, false, false, false, false, false, false, false, false, false, false, false, false, false, false] rfl rfl (any_of HT_.out (by kernel_rfl)) (fun _ _ _ h => h) (Or.inl ⟨by rfl, ?_⟩) ?_ ?_
                rotate_left
                · intro w'
                  go_simp
                  with_reducible rfl
                rotate_left
                · simp only [Act.put, List.setIfInBounds_toArray, List.set_cons_zero, List.set_cons_succ, i64_w, i32_w]
                  rfl
                refine pure_ (i := 1) (N := some 84) (v := ?_) (a' := ?_) #[true, true, false, false, false, false, false, false, false, false, false, false, false, false, false, false, false, false, false, false, false, false] rfl rfl (any_of HT_.out (by kernel_rfl)) (fun _ _ _ h => h) (Or.inl ⟨by rfl, ?_⟩) ?_ ?_
                rotate_left
                · intro w'
                  go_simp
                  with_reducible rfl
                rotate_left
                · simp only [Act.put, List.setIfInBounds_toArray, List.set_cons_zero, List.set_cons_succ, i64_w, i32_w]
                  rfl
                refine pure_ (i := 2) (N := some 85) (v := ?_) (a' := ?_) #[true, true, true, false, false, false, false, false, false, false, false, false, false, false, false, false, false, false, false, false, false, false] rfl rfl (any_of HT_.out (by kernel_rfl)) (fun _ _ _ h => h) (Or.inl ⟨by rfl, ?_⟩) ?_ ?_
                rotate_left
                · intro w'
                  go_simp
                  with_reducible rfl
                rotate_left
                · simp only [Act.put, List.setIfInBounds_toArray, List.set_cons_zero, List.set_cons_succ, i64_w, i32_w]
                  rfl
                refine pure_ (i := 4) (N := some 87) (v := ?_) (a' := ?_) #[true, true, true, false, true, false, false, false, false, false, false, false, false, false, false, false, false, false, false, false, false, false] rfl rfl (any_of HT_.out (by kernel_rfl)) (fun _ _ _ h => h) (Or.inl ⟨by rfl, ?_⟩) ?_ ?_
                rotate_left
                · intro w'
                  go_simp
                  with_reducible rfl
                rotate_left
                · simp only [Act.put, List.setIfInBounds_toArray, List.set_cons_zero, List.set_cons_succ, i64_w, i32_w]
                  rfl
                refine pure_ (i := 5) (N := some 88) (v := ?_) (a' := ?_) #[true, true, true, false, true, true, false, false, false, false, false, false, false, false, false, false, false, false, false, false, false, false] rfl rfl (any_of HT_.out (by kernel_rfl)) (fun _ _ _ h => h) (Or.inl ⟨by rfl, ?_⟩) ?_ ?_
                rotate_left
                · intro w'
                  go_simp
                  with_reducible rfl
                rotate_left
                · simp only [Act.put, List.setIfInBounds_toArray, List.set_cons_zero, List.set_cons_succ, i64_w, i32_w]
                  rfl
                refine pure_ (i := 6) (N := some 89) (v := ?_) (a' := ?_) #[true, true, true, false, true, true, true, false, false, false, false, false, false, false, false, false, false, false, false, false, false, false] rfl rfl (any_of HT_.out (by kernel_rfl)) (fun _ _ _ h => h) (Or.inl ⟨by rfl, ?_⟩) ?_ ?_
                rotate_left
                · intro w'
                  go_simp
                  with_reducible rfl
                rotate_left
                · simp only [Act.put, List.setIfInBounds_toArray, List.set_cons_zero, List.set_cons_succ, i64_w, i32_w]
                  rfl
                refine pure_ (i := 7) (N := some 90) (v := ?_) (a' := ?_) #[true, true, true, false, true, true, true, true, false, false, false, false, false, false, false, false, false, false, false, false, false, false] rfl rfl (any_of HT_.out (by kernel_rfl)) (fun _ _ _ h => h) (Or.inl ⟨by rfl, ?_⟩) ?_ ?_
                rotate_left
                · intro w'
                  go_simp
                  with_reducible rfl
                rotate_left
                · simp only [Act.put, List.setIfInBounds_toArray, List.set_cons_zero, List.set_cons_succ, i64_w, i32_w]
                  rfl
                refine take_ (i := 3) (N := some 86) (v := ?_) (a' := ?_) #[true, true, true, true, true, true, true, true, false, false, false, false, false, false, false, false, false, false, false, false, false, false] rfl rfl (take_ofW HT_.out HW_.out (by kernel_rfl)) (fun _ _ _ h => h) (Or.inl ⟨by rfl, ?_⟩) hHeld ?_ ?_
                rotate_left
                · rintro w' ⟨s0, s1, s2, s3⟩
                  go_simp
                  with_reducible rfl
                rotate_left
                · simp only [Act.put, List.setIfInBounds_toArray, List.set_cons_zero, List.set_cons_succ, i64_w, i32_w]
                  rfl
                refine take_ (i := 8) (N := some 91) (v := ?_) (a' := ?_) #[true, true, true, true, true, true, true, true, true, false, false, false, false, false, false, false, false, false, false, false, false, false] rfl rfl (take_ofW HT_.out HW_.out (by kernel_rfl)) (fun _ _ _ h => h) (Or.inl ⟨by rfl, ?_⟩) hHeld ?_ ?_
                rotate_left
                · rintro w' ⟨s0, s1, s2, s3⟩
                  go_simp
                  with_reducible rfl
                rotate_left
                · simp only [Act.put, List.setIfInBounds_toArray, List.set_cons_zero, List.set_cons_succ, i64_w, i32_w]
                  rfl
                refine pure_ (i := 9) (N := some 92) (v := ?_) (a' := ?_) #[true, true, true, true, true, true, true, true, true, true, false, false, false, false, false, false, false, false, false, false, false, false] rfl rfl (any_of HT_.out (by kernel_rfl)) (fun _ _ _ h => h) (Or.inl ⟨by rfl, ?_⟩) ?_ ?_
                rotate_left
                · intro w'
                  go_simp
                  with_reducible rfl
                rotate_left
                · simp only [Act.put, List.setIfInBounds_toArray, List.set_cons_zero, List.set_cons_succ, i64_w, i32_w]
                  rfl
                refine pure_ (i := 10) (N := some 93) (v := ?_) (a' := ?_) #[true, true, true, true, true, true, true, true, true, true, true, false, false, false, false, false, false, false, false, false, false, false] rfl rfl (any_of HT_.out (by kernel_rfl)) (fun _ _ _ h => h) (Or.inl ⟨by rfl, ?_⟩) ?_ ?_
                rotate_left
                · intro w'
                  go_simp
                  with_reducible rfl
                rotate_left
                · simp only [Act.put, List.setIfInBounds_toArray, List.set_cons_zero, List.set_cons_succ, i64_w, i32_w]
                  rfl
                refine pure_ (i := 11) (N := some 94) (v := ?_) (a' := ?_) #[true, true, true, true, true, true, true, true, true, true, true, true, false, false, false, false, false, false, false, false, false, false] rfl rfl (any_of HT_.out (by kernel_rfl)) (fun _ _ _ h => h) (Or.inl ⟨by rfl, ?_⟩) ?_ ?_
                rotate_left
                · intro w'
                  go_simp
                  with_reducible rfl
                rotate_left
                · simp only [Act.put, List.setIfInBounds_toArray, List.set_cons_zero, List.set_cons_succ, i64_w, i32_w]
                  rfl
                refine pure_ (i := 14) (N := some 97) (v := ?_) (a' := ?_) #[true, true, true, true, true, true, true, true, true, true, true, true, false, false, true, false, false, false, false, false, false, false] rfl rfl (any_of HT_.out (by kernel_rfl)) (fun _ _ _ h => h) (Or.inl ⟨by rfl, ?_⟩) ?_ ?_
                rotate_left
                · intro w'
                  go_simp
                  with_reducible rfl
                rotate_left
                · simp only [Act.put, List.setIfInBounds_toArray, List.set_cons_zero, List.set_cons_succ, i64_w, i32_w]
                  rfl
                refine pure_ (i := 15) (N := some 98) (v := ?_) (a' := ?_) #[true, true, true, true, true, true, true, true, true, true, true, true, false, false, true, true, false, false, false, false, false, false] rfl rfl (any_of HT_.out (by kernel_rfl)) (fun _ _ _ h => h) (Or.inl ⟨by rfl, ?_⟩) ?_ ?_
                rotate_left
                · intro w'
                  go_simp
                  with_reducible rfl
                rotate_left
                · simp only [Act.put, List.setIfInBounds_toArray, List.set_cons_zero, List.set_cons_succ, i64_w, i32_w]
                  rfl
                refine pure_ (i := 16) (N := some 99) (v := ?_) (a' := ?_) #[true, true, true, true, true, true, true, true, true, true, true, true, false, false, true, true, true, false, false, false, false, false] rfl rfl (any_of HT_.out (by kernel_rfl)) (fun _ _ _ h => h) (Or.inl ⟨by rfl, ?_⟩) ?_ ?_
                rotate_left
                · intro w'
                  go_simp
                  with_reducible rfl
                rotate_left
                · simp only [Act.put, List.setIfInBounds_toArray, List.set_cons_zero, List.set_cons_succ, i64_w, i32_w]
                  rfl
                refine pure_ (i := 17) (N := some 100) (v := ?_) (a' := ?_) #[true, true, true, true, true, true, true, true, true, true, true, true, false, false, true, true, true, true, false, false, false, false] rfl rfl (any_of HT_.out (by kernel_rfl)) (fun _ _ _ h => h) (Or.inl ⟨by rfl, ?_⟩) ?_ ?_
                rotate_left
                · intro w'
                  go_simp
                  with_reducible rfl
                rotate_left
                · simp only [Act.put, List.setIfInBounds_toArray, List.set_cons_zero, List.set_cons_succ, i64_w, i32_w]
                  rfl
                refine take_ (i := 12) (N := some 95) (v := ?_) (a' := ?_) #[true, true, true, true, true, true, true, true, true, true, true, true, true, false, true, true, true, true, false, false, false, false] rfl rfl (take_ofW HT_.out HW_.out (by kernel_rfl)) (fun _ _ _ h => h) (Or.inl ⟨by rfl, ?_⟩) hHeld ?_ ?_
                rotate_left
                · rintro w' ⟨s0, s1, s2, s3⟩
                  go_simp
                  with_reducible rfl
                rotate_left
                · simp only [Act.put, List.setIfInBounds_toArray, List.set_cons_zero, List.set_cons_succ, i64_w, i32_w]
                  rfl
                refine take_ (i := 18) (N := some 101) (v := ?_) (a' := ?_) #[true, true, true, true, true, true, true, true, true, true, true, true, true, false, true, true, true, true, true, false, false, false] rfl rfl (take_ofW HT_.out HW_.out (by kernel_rfl)) (fun _ _ _ h => h) (Or.inl ⟨by rfl, ?_⟩) hHeld ?_ ?_
                rotate_left
                · rintro w' ⟨s0, s1, s2, s3⟩
                  go_simp
                  with_reducible rfl
                rotate_left
                · simp only [Act.put, List.setIfInBounds_toArray, List.set_cons_zero, List.set_cons_succ, i64_w, i32_w]
                  rfl
                refine one_ (i := 13) (N := some 96) #[true, true, true, true, true, true, true, true, true, true, true, true, true, true, true, true, true, true, true, false, false, false] rfl rfl (one_of HT_.out (by kernel_rfl)) (by decide) (fun K hK => ?_)
                refine goes_ Try.func10 (by kernel_rfl) rfl #[.slice A6 q3.length c6] (by rfl) rfl rfl (by (try simp only [List.map_toArray, List.map_cons, List.map_nil]); rfl) ?_
                refine (crc_Sum.calls A6 c6 q3 S' _ (Kd.R_reads' HQd.out).2.2 (Kd.R_reads' HQd.out).2.1 HSUM.out).mono ?_
                rintro e_ w11 ⟨rfl, hb⟩
                refine ⟨_, rfl, ?_⟩
                have HBg := Aside0.mk (below_step HBg0.out hb)
                have BQe := Aside0.mk (blk_below BQd.out hb)
                have Z2 := Aside0.mk (pw_cell_below hb Z0.out)
                have Z3 := Aside0.mk (pw_cell_below hb Z1.out)
                clear hb
                refine hK.out _ _ ⟨(blk_cell BQe.out 0).trans rfl, (blk_cell BQe.out 2).trans rfl, Z2.out, Z3.out⟩ (fun hHeld => ?_)
                clear hK K
                refine norm_ (a' := ?_) ?_ ?_
                rotate_left
                · show Act.put _ (some 96) _ = _
                  simp only [Act.put, List.setIfInBounds_toArray, List.set_cons_zero, List.set_cons_succ, i64_w, i32_w]
                  rfl
                refine pure_ (i := 19) (N := some 102) (v := ?_) (a' := ?_) #[true, true, true, true, true, true, true, true, true, true, true, true, true, true, true, true, true, true, true, true, false, false] rfl rfl (any_of HT_.out (by kernel_rfl)) (fun _ _ _ h => h) (Or.inl ⟨by rfl, ?_⟩) ?_ ?_
                rotate_left
                · intro w'
                  go_simp
                  with_reducible rfl
                rotate_left
                · simp only [Act.put, List.setIfInBounds_toArray, List.set_cons_zero, List.set_cons_succ, i64_w, i32_w]
                  rfl
                refine pure_ (i := 20) (N := some 103) (v := ?_) (a' := ?_) #[true, true, true, true, true, true, true, true, true, true, true, true, true, true, true, true, true, true, true, true, true, false] rfl rfl (any_of HT_.out (by kernel_rfl)) (fun _ _ _ h => h) (Or.inl ⟨by rfl, ?_⟩) ?_ ?_
                rotate_left
                · intro w'
                  go_simp
                  with_reducible rfl
                rotate_left
                · simp only [Act.put, List.setIfInBounds_toArray, List.set_cons_zero, List.set_cons_succ, i64_w, i32_w]
                  rfl
                refine pure_ (i := 21) (N := some 104) (v := ?_) (a' := ?_) #[true, true, true, true, true, true, true, true, true, true, true, true, true, true, true, true, true, true, true, true, true, true] rfl rfl (any_of HT_.out (by kernel_rfl)) (fun _ _ _ h => h) (Or.inl ⟨by rfl, ?_⟩) ?_ ?_
                rotate_left
                · intro w'
                  go_simp
                  with_reducible rfl
                rotate_left
                · simp only [Act.put, List.setIfInBounds_toArray, List.set_cons_zero, List.set_cons_succ, i64_w, i32_w]
                  rfl
                refine done_ (done_of HT_.out (by kernel_rfl)) ?_
                exact onNormalT_of (slots_t _ _ _ (by kernel_rfl) HBg.out)
            · as_aux_lemma =>
                go_quiet (fail)
                exact onNormalT_of (slots_t _ _ _ (by kernel_rfl) (pw_below_drewN (Below.refl _ _) nq))
          case cont11 =>
            rintro a' w12 ⟨vt, rfl, hb12⟩
            have BQ := Aside0.mk (blk_below BKQ.out hb12)
            have BP := Aside0.mk (blk_below BKP.out hb12)
            have HQ12 := Aside0.mk (Kd.R_below HQ.out hb12)
            have HB12 := Aside0.mk (below_step HB.out hb12)
            have y0 : w12.cell? ⟨gt, 0, none⟩ = some (.int .i64 q1) := (blk_cell BQ.out 0).trans rfl
            have y1 : w12.cell? ⟨gt, 1, none⟩ = some (.int .u32 q2) := (blk_cell BQ.out 1).trans rfl
            have y2 : w12.cell? ⟨gt, 2, none⟩ = some (.slice A6 q3.length c6) := (blk_cell BQ.out 2).trans rfl
            have p0 : w12.cell? ⟨gp, 0, none⟩ = some (.int .i64 T) := (blk_cell BP.out 0).trans rfl
            have p1 : w12.cell? ⟨gp, 1, none⟩ = some (.int .u32 S) := (blk_cell BP.out 1).trans rfl
            have p2 : w12.cell? ⟨gp, 2, none⟩ = some (.slice A D.length c) := (blk_cell BP.out 2).trans rfl
            have f0 := blk_frozen BP.out 0
            have f1 := blk_frozen BP.out 1
            have f2 := blk_frozen BP.out 2
            clear hb12 BKQ BKP HQ HB Z0 Z1
            go_wp2_with fail
            go_roundw
            case rel => exact ⟨k + 1, q1, q2, q3, A6, c6, by omega, by go_num, blk_put (blk_put (blk_put BP.out 0 _ rfl) 1 _ rfl) 2 _ rfl, Kd.R_set (Kd.R_set (Kd.R_set HQ12.out BP.out (by decide) 0 _) (blk_put BP.out 0 _ rfl) (by decide) 1 _) (blk_put (blk_put BP.out 0 _ rfl) 1 _ rfl) (by decide) 2 _, ⟨HRES.out.octs, HRES.out.short⟩, ((HB12.out.setCell (p := ⟨gp, 0, none⟩) GP.out _).setCell (p := ⟨gp, 1, none⟩) GP.out _).setCell (p := ⟨gp, 2, none⟩) GP.out _⟩
            case measure => first | (simp [intOf]; done) | (simp [intOf]; omega)
      · have heb : (e != 0) = true := by simpa using he
        go_wp2_with fail
        go_roundw
        case rel => exact ⟨k + 1, T, S, D, A, c, by omega, by go_num, BKP.out, HV.out, HD, HB.out⟩
        case measure => first | (simp [intOf]; done) | (simp [intOf]; omega)
    · obtain rfl : k = n := by omega
      clear hlt
      have hk1 : decide ((k : Int) < (k : Int)) = false := decide_eq_false (by omega)
      go_wp2_with fail
      go_ret
      exact ⟨rfl, HB⟩
end Go.Proofs.Ytabkdakikfhgmaa.Q
