/- disk's Rot and the page's; no condition but that the state may be where Check says so. -/
import Derived.Test.YtiiphlfgdkjjiaaZRotDRefOwn
import Derived.Test.YtiiphlfgdkjjiaaZRotDLand
import Derived.Test.YtiiphlfgdkjjiaaZRotQ0
import Derived.Test.YtiiphlfgdkjjiaaZRotDPut
namespace Go.Proofs.Ytiiphlfgdkjjiaa.Q
open Go.RowKit Go.Proofs.YtiiphlfgdkjjiaaW.PrintWords Go.Proofs.YtiiphlfgdkjjiaaW.PrintLast Go.Proofs.YtiiphlfgdkjjiaaW.PrintMore
set_option linter.unusedVariables false
set_option linter.unusedSimpArgs false

/-- Bits turned in one octet of one sector. -/
def turned (row : List Int) (p b : Int) : List Int := row.set p.toNat (Go.bits .xor .u8 (row.getD p.toNat 0) b)
def rotted (l0 : List (List Int)) (sec p b : Int) : List (List Int) := l0.set sec.toNat (turned (rd_L4 l0 sec) p b)
def disk_Rot.f (k : Nat) (l0 : List (List Int)) (l1 : List Wr) (sec p b : Int) : Option (List (List Int) × List Wr × Int) :=
  (disk_asked.f k l0 l1 sec).bind fun c => if c = 0 then (if p < 0 then some ([], [], 4) else if p ≥ 64 then some ([], [], 4) else if okS l0 l1 = true ∧ 0 ≤ sec ∧ sec < (l0.length : Int) then some (rotted l0 sec p b, l1, 0) else none) else some ([], [], c)
set_option maxHeartbeats 8000000 in
set_option maxRecDepth 100000 in
theorem disk_Rot.calls (k : Nat) (A0_0 : Option Addr) (c0_0 : Nat) (l0_0 : List (List Int)) (A0_1 : Option Addr) (c0_1 : Nat) (l0_1 : List Wr) (a1 a2 a3 : Int) (r1 : List (List Int)) (r2 : List Wr) (r3 : Int) (w : World) (hr0_0 : Kd.C kB w A0_0 l0_0.length l0_0) (hc0_0 : l0_0.length ≤ c0_0) (hr0_1 : Kd.C kW w A0_1 l0_1.length l0_1) (hc0_1 : l0_1.length ≤ c0_1) (h : disk_Rot.f k l0_0 l0_1 a1 a2 a3 = some (r1, r2, r3)) :
    Calls Try.prog 19 #[.agg #[.slice A0_0 l0_0.length c0_0, .slice A0_1 l0_1.length c0_1], .int .i64 a1, .int .i64 a2, .int .u8 a3] w fun e w' => ∃ v0_ v1_ : Value, e = .returned (.tuple #[.agg #[v0_, v1_], .int .i64 r3]) ∧ Kd.S kB 50 w' w.heap.size (fun _ => True) v0_ r1 ∧ Kd.S kW 61 w' w.heap.size (fun _ => True) v1_ r2 ∧ Below w.heap.size w w' := by
  have hu := Try.underlying28
  have huw := Try.underlying61
  have HR0 := Aside0.mk hr0_0
  have HC0 := Aside0.mk hc0_0
  have HR1 := Aside0.mk hr0_1
  have HC1 := Aside0.mk hc0_1
  clear hr0_0 hc0_0 hr0_1 hc0_1
  unfold disk_Rot.f at h
  obtain ⟨t0, ht0, h⟩ := Option.bind_eq_some_iff.mp h
  have HT := Aside0.mk ht0
  have H := Aside0.mk h
  clear ht0 h
  go_enter Try.func19, Try.ntmps19
  go_wp2_with (first
    | ((with_reducible refine gate_dst (N := 4) rfl ?_); refine box_event ?hg (N := 4) ?hd (cs := #[.slice A0_0 l0_0.length c0_0, .slice A0_1 l0_1.length c0_1]) (t := 28) ?hr ?_; (case hd => rfl); (case hg => rfl); (case hr => first | (go_simp; done) | (go_simp; rfl)); intro gs hgs w1 hbox hb; have HB := Aside0.mk hb; have BKS := Aside0.mk hbox; clear hb hbox hgs)
    | ((with_reducible refine gate_dst (N := 8) rfl ?_); refine box_event ?hg (N := 8) ?hd (cs := #[.slice none 0 0, .slice none 0 0]) (t := 28) ?hr ?_; (case hd => rfl); (case hg => rfl); (case hr => first | (go_simp; done) | (go_simp; rfl)); intro gr hgr w2 hbox hb; have GR := Aside0.mk (by have := HB.out.size; omega : w.heap.size ≤ gr); replace BKS := Aside0.mk (blk_below BKS.out hb); replace HB := Aside0.mk (below_step HB.out hb); have BKR := Aside0.mk hbox; clear hb hbox hgr; have hz0 := (blk_cell BKS.out 0).trans rfl; have hz1 := (blk_cell BKS.out 1).trans rfl))
  refine (disk_asked.calls k _ _ l0_0 _ _ l0_1 a1 t0 _ (Kd.C_below HR0.out HB.out) HC0.out (Kd.C_below HR1.out HB.out) HC1.out HT.out).mono ?_
  rintro e w4 ⟨rfl, hb⟩
  clear hz0 hz1
  replace BKS := Aside0.mk (blk_below BKS.out hb)
  replace BKR := Aside0.mk (blk_below BKR.out hb)
  replace HB := Aside0.mk (below_step HB.out hb)
  clear hb
  have h := H.out
  clear H
  rcases Decidable.em (¬ t0 = 0) with c1_ | c1_
  · rw [if_neg c1_] at h
    have c1b : (t0 == 0) = false := by simp [c1_]
    have c1c : (t0 != 0) = true := by simp [c1_]
    obtain ⟨rfl, rfl, rfl⟩ : [] = r1 ∧ [] = r2 ∧ t0 = r3 := by simpa using h
    have hr0 : w4.cell? ⟨gr, 0, none⟩ = some (.slice none 0 0) := (blk_cell BKR.out 0).trans rfl
    have hr1 : w4.cell? ⟨gr, 1, none⟩ = some (.slice none 0 0) := (blk_cell BKR.out 1).trans rfl
    have hf0 := blk_frozen BKR.out 0
    have hf1 := blk_frozen BKR.out 1
    go_wp2_with fail
    refine bodyPost_ret (results_ct rfl _ _ gr 28 #[.slice none 0 0, .slice none 0 0] (0, 0) _ rfl (put2 BKR.out) Try.underlying28 rfl (by kernel_rfl)) rfl ?_
    exact ⟨_, _, rfl, Kd.S_nil _ _ _ _ _, Kd.S_nil _ _ _ _ _, below2 HB.out GR.out _ _⟩
  obtain rfl : t0 = 0 := Decidable.not_not.1 c1_
  rw [if_pos rfl] at h
  clear c1_
  by_cases c2 : a2 < 0
  · rw [if_pos c2] at h
    have c2b := decide_eq_true c2
    obtain ⟨rfl, rfl, rfl⟩ : [] = r1 ∧ [] = r2 ∧ 4 = r3 := by simpa using h
    have hr0 : w4.cell? ⟨gr, 0, none⟩ = some (.slice none 0 0) := (blk_cell BKR.out 0).trans rfl
    have hr1 : w4.cell? ⟨gr, 1, none⟩ = some (.slice none 0 0) := (blk_cell BKR.out 1).trans rfl
    have hf0 := blk_frozen BKR.out 0
    have hf1 := blk_frozen BKR.out 1
    go_wp2_with fail
    refine bodyPost_ret (results_ct rfl _ _ gr 28 #[.slice none 0 0, .slice none 0 0] (0, 0) _ rfl (put2 BKR.out) Try.underlying28 rfl (by kernel_rfl)) rfl ?_
    exact ⟨_, _, rfl, Kd.S_nil _ _ _ _ _, Kd.S_nil _ _ _ _ _, below2 HB.out GR.out _ _⟩
  rw [if_neg c2] at h
  have c2b := decide_eq_false c2
  by_cases c3 : a2 ≥ 64
  · rw [if_pos c3] at h
    have c3b := decide_eq_true c3
    obtain ⟨rfl, rfl, rfl⟩ : [] = r1 ∧ [] = r2 ∧ 4 = r3 := by simpa using h
    have hr0 : w4.cell? ⟨gr, 0, none⟩ = some (.slice none 0 0) := (blk_cell BKR.out 0).trans rfl
    have hr1 : w4.cell? ⟨gr, 1, none⟩ = some (.slice none 0 0) := (blk_cell BKR.out 1).trans rfl
    have hf0 := blk_frozen BKR.out 0
    have hf1 := blk_frozen BKR.out 1
    go_wp2_with fail
    refine bodyPost_ret (results_ct rfl _ _ gr 28 #[.slice none 0 0, .slice none 0 0] (0, 0) _ rfl (put2 BKR.out) Try.underlying28 rfl (by kernel_rfl)) rfl ?_
    exact ⟨_, _, rfl, Kd.S_nil _ _ _ _ _, Kd.S_nil _ _ _ _ _, below2 HB.out GR.out _ _⟩
  rw [if_neg c3] at h
  have c3b := decide_eq_false c3
  have c4 : okS l0_0 l0_1 = true ∧ 0 ≤ a1 ∧ a1 < (l0_0.length : Int) := by
    by_cases c4 : okS l0_0 l0_1 = true ∧ 0 ≤ a1 ∧ a1 < (l0_0.length : Int)
    · exact c4
    · rw [if_neg c4] at h; exact absurd h (by simp)
  rw [if_pos c4] at h
  obtain ⟨rfl, rfl, rfl⟩ : rotted l0_0 a1 a2 a3 = r1 ∧ l0_1 = r2 ∧ 0 = r3 := by simpa using h
  obtain ⟨c4, hs0, hs1⟩ := c4
  obtain ⟨ho1, ho2, ho3, ho4, ho5⟩ := okS_out c4
  obtain ⟨row, hrow⟩ : ∃ row, row = rd_L4 l0_0 a1 := ⟨_, rfl⟩
  have hrl : row.length = 64 := by
    have hlt2 : a1.toNat < l0_0.length := by omega
    rw [hrow, rd_L4, List.getD_eq_getElem?_getD, List.getElem?_eq_getElem hlt2]
    exact ho4 _ (List.getElem_mem hlt2)
  have HRL := Aside0.mk hrl
  have HROW := Aside0.mk (show row = l0_0.getD a1.toNat [] from hrow)
  clear hrl hrow
  have hz0 : w4.cell? ⟨gs, 0, none⟩ = some (.slice A0_0 l0_0.length c0_0) := (blk_cell BKS.out 0).trans rfl
  have hz1 : w4.cell? ⟨gs, 1, none⟩ = some (.slice A0_1 l0_1.length c0_1) := (blk_cell BKS.out 1).trans rfl
  clear h
  go_wp2_with fail
  refine (dclone_any A0_0 c0_0 l0_0 A0_1 c0_1 l0_1 _ (Kd.C_below HR0.out HB.out) (Kd.C_below HR1.out HB.out) ho2 ho3 (fun x hx => by rw [ho4 x hx]; omega) (fun x hx => by rw [(ho5 x hx).2.2]; omega)).mono ?_
  rintro e w5 ⟨v0, v1, rfl, ⟨p, hp0, hp1⟩, hb⟩
  obtain ⟨a0, d0, e0⟩ := Kd.S_slice hp0
  subst e0
  obtain ⟨a1', d1, e1⟩ := Kd.S_slice hp1
  subst e1
  clear hz0 hz1 ho4 ho5 BKS
  have HP0 := Aside0.mk (Kd.S_lower hp0 HB.out.size)
  have HP1 := Aside0.mk (Kd.S_lower hp1 HB.out.size)
  replace BKR := Aside0.mk (blk_below BKR.out hb)
  replace HB := Aside0.mk (below_step HB.out hb)
  clear hp0 hp1 hb
  obtain ⟨g0, e0, eo, _, _, cg0, hcg0⟩ := Kd.S_form HP0.out (by omega)
  injection eo with ea _ ec
  subst ea ec
  obtain ⟨oki, ce, hcl, hM, hcc, hoki, hback⟩ := Kd.S_borrow HP0.out ([] : List Int) a1 hs0 (by omega)
  obtain ⟨v2, rfl, hR2⟩ := hM
  rw [← HROW.out] at hR2
  obtain ⟨gi, c2', e2, hgib, hgil, cgi, hcgi⟩ := Kd.R_form hR2 (by rw [HRL.out]; decide)
  rw [HRL.out] at e2
  subst e2
  have he0 : w5.cell? ⟨g0, a1.toNat, none⟩ = some (.slice (some ⟨gi, 0, none⟩) 64 c2') := by have h1 := hcc 0 _ rfl; rw [add_at, Nat.zero_add] at h1; rwa [show a1.toNat * (kB).sz + 0 = a1.toNat from by show a1.toNat * 1 + 0 = _; omega] at h1
  have hlc2 := (Kd.R_reads' hR2).2.1
  obtain ⟨cb, hcbl, hMb, hcbc, hfrb⟩ := Kd.R_elem hR2 (0 : Int) a2 (by omega) (by omega)
  have hMb' : cb = [Value.int .u8 (row.getD a2.toNat 0)] := hMb
  subst hMb'
  obtain ⟨y, hy⟩ : ∃ y, y = row.getD a2.toNat 0 := ⟨_, rfl⟩
  rw [← hy] at hcbc
  have HY := Aside0.mk hy
  clear hy hMb hcbl
  have hcw : w5.cell? ⟨gi, a2.toNat, none⟩ = some (.int .u8 y) := by have := hcbc 0 _ rfl; rwa [show a2.toNat * (Kd.int .u8).sz + 0 = a2.toNat from by show a2.toNat * 1 + 0 = _; omega] at this
  have hfw : w5.frozen? ⟨gi, a2.toNat, none⟩ = false := by have := hfrb 0; rwa [show a2.toNat * (Kd.int .u8).sz + 0 = a2.toNat from by show a2.toNat * 1 + 0 = _; omega] at this
  have HCBC := Aside0.mk hcbc
  have hgio := hR2.1 gi rfl
  have hgip := (hoki gi hgio).1
  have HR2 := Aside0.mk hR2
  have HBACK := Aside0.mk @hback
  clear hcl hcc hfrb hcbc hback hR2 hoki
  have hn1 : gr ≠ gi := blk_ne BKR.out hcgi (by decide)
  have hn2 := hn1.symm
  have hbr := fun (v : Value) (o : Obj) => blk_alloc (blk_far BKR.out (p := ⟨gi, a2.toNat, none⟩) hn1 v) o
  have hr0 : ∀ (v : Value) (o : Obj), ((w5.setCell ⟨gi, a2.toNat, none⟩ v).alloc o).cell? ⟨gr, 0, none⟩ = some (.slice none 0 0) := fun v o => (blk_cell (hbr v o) 0).trans rfl
  have hr1 : ∀ (v : Value) (o : Obj), ((w5.setCell ⟨gi, a2.toNat, none⟩ v).alloc o).cell? ⟨gr, 1, none⟩ = some (.slice none 0 0) := fun v o => (blk_cell (hbr v o) 1).trans rfl
  have hf0 := fun (v : Value) (o : Obj) => blk_frozen (hbr v o) 0
  have hf1 := fun (v : Value) (o : Obj) => blk_frozen (hbr v o) 1
  clear hbr
  go_wp2_with fail
  obtain ⟨u, hu2⟩ : ∃ u, u = Go.bits .xor .u8 y a3 := ⟨_, rfl⟩
  obtain ⟨hs7, hg7⟩ := Kd.R_seg HR2.out a2 (by omega) (by omega) (c := [.int .u8 y]) rfl HCBC.out (seg := [.int .u8 u]) (j := 0) (by show 0 + 1 ≤ 1; decide) (x' := u) (okp := fun _ => False) rfl (fun _ h => h.elim)
  rw [show a2.toNat * (Kd.int .u8).sz + 0 = a2.toNat from by show a2.toNat * 1 + 0 = _; omega] at hs7 hg7
  have hsT : row.set a2.toNat u = turned (rd_L4 l0_0 a1) a2 a3 := by rw [hu2, HY.out, HROW.out]; rfl
  rw [hsT] at hs7
  have HP7 := HBACK.out hg7 (fun k hk => by cases hk; exact hgio) (⟨_, rfl, hs7⟩ : kB.M _ w.heap.size oki _ _)
  have HQ7 := Kd.S_grown HP1.out hg7 (fun k hk he => by cases he; exact hk hgip)
  have BKR7 := blk_far BKR.out (p := ⟨gi, a2.toNat, none⟩) hn1 (.int .u8 u)
  have HB7 := HB.out.setCell (p := ⟨gi, a2.toNat, none⟩) hgib (.int .u8 u)
  rw [← hu2]
  refine bodyPost_ret (results_ct rfl _ _ gr 28 #[.slice (some ⟨g0, 0, none⟩) l0_0.length d0, .slice a1' l0_1.length d1] (0, 0) _ rfl (put2 (blk_alloc BKR7 (.cells #[.slice (some ⟨g0, 0, none⟩) l0_0.length d0, .slice a1' l0_1.length d1] 28))) Try.underlying28 rfl (by kernel_rfl)) rfl ?_
  exact ⟨_, _, rfl, Kd.S_mono (S_set2 (Kd.S_alloc HP7 _) (blk_alloc BKR7 _) (by decide) _ _) (fun _ _ => trivial), Kd.S_mono (S_set2 (Kd.S_alloc HQ7 _) (blk_alloc BKR7 _) (by decide) _ _) (fun _ _ => trivial), below2 (below_alloc HB7 _) GR.out _ _⟩
end Go.Proofs.Ytiiphlfgdkjjiaa.Q
