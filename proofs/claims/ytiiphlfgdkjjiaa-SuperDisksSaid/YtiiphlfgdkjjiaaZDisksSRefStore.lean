/- transeptref06.Store, walked; no condition. -/
import Derived.Test.YtiiphlfgdkjjiaaZDisksSRefEnc
import Derived.Test.YtiiphlfgdkjjiaaZDisksDTellsPlain
import Derived.Test.YtiiphlfgdkjjiaaZDisksQ22
import Derived.Test.YtiiphlfgdkjjiaaZDisksQ30
import Derived.Test.YtiiphlfgdkjjiaaZDisksQ34
import Derived.Test.YtiiphlfgdkjjiaaZDisksSAlive
import Derived.Test.YtiiphlfgdkjjiaaZDisksSStore
import Derived.Test.YtiiphlfgdkjjiaaZDisksSRefDec
import Derived.Test.YtiiphlfgdkjjiaaZDisksQ18
import Derived.Test.YtiiphlfgdkjjiaaZDisksQ15
import Derived.Test.YtiiphlfgdkjjiaaZDisksQ42
import Derived.Test.YtiiphlfgdkjjiaaZDisksQ21
import Derived.Test.YtiiphlfgdkjjiaaZDisksQ25
import Derived.Test.YtiiphlfgdkjjiaaZDisksQ2
namespace Go.Proofs.Ytiiphlfgdkjjiaa.Q
open Go.RowKit Go.Proofs.YtiiphlfgdkjjiaaW.PrintWords Go.Proofs.YtiiphlfgdkjjiaaW.PrintLast Go.Proofs.YtiiphlfgdkjjiaaW.PrintMore
open Go.Proofs.Ytiiphlfgdkjjiaa.CrcP
set_option linter.unusedVariables false
set_option linter.unusedSimpArgs false

def transeptref06_Store.f (k : Nat) (l0 : List (List Int)) (l1 : List Wp) (a0 a1 a2 a3 a4 : Int) : Option (List (List Int) × List Wp × Int) :=
  (transeptref04_Check.f k l0 l1).bind fun c => if c = 0 then (if (l0.length : Int) < 2 then some ([], [], 41) else (transeptref06_Encode.f a0 a1 a2 a3 a4).bind fun e =>
    if e.2 = 0 then (transeptref04_Put.f k l0 l1 (Int.tmod a0 2) e.1).bind fun p => (if p.2.2 = 0 then (transeptref04_Flush.f k p.1 p.2.1).bind fun t => some (t.1, t.2.1, t.2.2) else some ([], [], p.2.2)) else some ([], [], e.2)) else some ([], [], c)
set_option maxHeartbeats 8000000 in
set_option maxRecDepth 100000 in
theorem transeptref06_Store.calls (k : Nat) (A0_0 : Option Addr) (c0_0 : Nat) (l0_0 : List (List Int)) (A0_1 : Option Addr) (c0_1 : Nat) (l0_1 : List Wp) (a0 a1 a2 a3 a4 : Int) (r1 : List (List Int)) (r2 : List Wp) (r3 : Int) (w : World) (hr0_0 : Kd.C kB w A0_0 l0_0.length l0_0) (hc0_0 : l0_0.length ≤ c0_0) (hr0_1 : Kd.C kP w A0_1 l0_1.length l0_1) (hc0_1 : l0_1.length ≤ c0_1) (h : transeptref06_Store.f k l0_0 l0_1 a0 a1 a2 a3 a4 = some (r1, r2, r3)) :
    Calls Try.prog 47 #[.agg #[.slice A0_0 l0_0.length c0_0, .slice A0_1 l0_1.length c0_1], .agg #[.int .i64 a0, .int .i64 a1, .int .i64 a2, .int .i64 a3, .int .i64 a4]] w fun e w' => ∃ v0_ v1_ : Value, e = .returned (.tuple #[.agg #[v0_, v1_], .int .i64 r3]) ∧ Kd.S kB 50 w' w.heap.size (fun _ => True) v0_ r1 ∧ Kd.S kP 55 w' w.heap.size (fun _ => True) v1_ r2 ∧ Below w.heap.size w w' := by
  have hud := Try.underlying42
  have hur := Try.underlying23
  have HR0 := Aside0.mk hr0_0
  have HC0 := Aside0.mk hc0_0
  have HR1 := Aside0.mk hr0_1
  have HC1 := Aside0.mk hc0_1
  clear hr0_0 hc0_0 hr0_1 hc0_1
  unfold transeptref06_Store.f at h
  obtain ⟨c, hc, h⟩ := Option.bind_eq_some_iff.mp h
  have HCK := Aside0.mk hc
  have H := Aside0.mk h
  clear hc h
  go_enter Try.func47, Try.ntmps47
  go_wp2_with (first
    | ((with_reducible refine gate_dst (N := 2) rfl ?_); refine box_event ?hg (N := 2) ?hd (cs := #[.slice A0_0 l0_0.length c0_0, .slice A0_1 l0_1.length c0_1]) (t := 42) ?hr ?_; (case hd => rfl); (case hg => rfl); (case hr => first | (go_simp; done) | (go_simp; rfl)); intro gd hgd w1 hbox hb; have HB := Aside0.mk hb; have BKD := Aside0.mk hbox; clear hb hbox hgd)
    | ((with_reducible refine gate_dst (N := 3) rfl ?_); refine box_event ?hg (N := 3) ?hd (cs := #[.int .i64 a0, .int .i64 a1, .int .i64 a2, .int .i64 a3, .int .i64 a4]) (t := 23) ?hr ?_; (case hd => rfl); (case hg => rfl); (case hr => first | (go_simp; done) | (go_simp; rfl)); intro gx hgx w2 hbox hb; replace HB := Aside0.mk (below_step HB.out hb); have BKX := Aside0.mk hbox; replace BKD := Aside0.mk (blk_below BKD.out hb); clear hb hbox hgx)
    | ((with_reducible refine gate_dst (N := 4) rfl ?_); refine box_event ?hg (N := 4) ?hd (cs := #[.slice none 0 0, .slice none 0 0]) (t := 42) ?hr ?_; (case hd => rfl); (case hg => rfl); (case hr => first | (go_simp; done) | (go_simp; rfl)); intro gr hgr w3 hbox hb; have GR := Aside0.mk (by have := HB.out.size; omega : w.heap.size ≤ gr); replace HB := Aside0.mk (below_step HB.out hb); have BKR := Aside0.mk hbox; replace BKD := Aside0.mk (blk_below BKD.out hb); replace BKX := Aside0.mk (blk_below BKX.out hb); have hz0 : w3.cell? ⟨gd, 0, none⟩ = some (.slice A0_0 l0_0.length c0_0) := (blk_cell BKD.out 0).trans rfl; have hz1 : w3.cell? ⟨gd, 1, none⟩ = some (.slice A0_1 l0_1.length c0_1) := (blk_cell BKD.out 1).trans rfl; clear hb hbox hgr))
  clear hz0 hz1
  refine (transeptref04_Check.calls k A0_0 c0_0 l0_0 A0_1 c0_1 l0_1 c _ (Kd.C_below HR0.out HB.out) HC0.out (Kd.C_below HR1.out HB.out) HC1.out HCK.out).mono ?_
  rintro e w4 ⟨rfl, hb⟩
  replace BKD := Aside0.mk (blk_below BKD.out hb)
  replace BKX := Aside0.mk (blk_below BKX.out hb)
  replace BKR := Aside0.mk (blk_below BKR.out hb)
  replace HB := Aside0.mk (below_step HB.out hb)
  clear hb
  have h := H.out
  clear H
  by_cases h0 : c = 0
  · rw [if_pos h0] at h
    subst h0
    have hz0 : w4.cell? ⟨gd, 0, none⟩ = some (.slice A0_0 l0_0.length c0_0) := (blk_cell BKD.out 0).trans rfl
    by_cases h2 : (l0_0.length : Int) < 2
    · rw [if_pos h2] at h
      obtain ⟨rfl, rfl, rfl⟩ : [] = r1 ∧ [] = r2 ∧ 41 = r3 := by simpa using h
      have h2b : decide ((l0_0.length : Int) < 2) = true := decide_eq_true h2
      clear h h2
      have hr0 : w4.cell? ⟨gr, 0, none⟩ = some (.slice none 0 0) := (blk_cell BKR.out 0).trans rfl
      have hr1 : w4.cell? ⟨gr, 1, none⟩ = some (.slice none 0 0) := (blk_cell BKR.out 1).trans rfl
      have hf0 := blk_frozen BKR.out 0
      have hf1 := blk_frozen BKR.out 1
      go_wp2_with fail
      refine bodyPost_ret (results_ct rfl _ _ gr 42 #[.slice none 0 0, .slice none 0 0] (0, 0) _ rfl (blk_put (blk_put BKR.out 0 _ rfl) 1 _ rfl) Try.underlying42 rfl (by kernel_rfl)) rfl ?_
      exact ⟨_, _, rfl, Kd.S_nil _ _ _ _ _, Kd.S_nil _ _ _ _ _, (HB.out.setCell (p := ⟨gr, 0, none⟩) GR.out _).setCell (p := ⟨gr, 1, none⟩) GR.out _⟩
    · rw [if_neg h2] at h
      have h2b : decide ((l0_0.length : Int) < 2) = false := decide_eq_false h2
      obtain ⟨⟨pl, pc⟩, he, h⟩ := Option.bind_eq_some_iff.mp h
      have HE := Aside0.mk he
      have H := Aside0.mk h
      clear h he h2
      have hx0 : w4.cell? ⟨gx, 0, none⟩ = some (.int .i64 a0) := (blk_cell BKX.out 0).trans rfl
      have hx1 : w4.cell? ⟨gx, 1, none⟩ = some (.int .i64 a1) := (blk_cell BKX.out 1).trans rfl
      have hx2 : w4.cell? ⟨gx, 2, none⟩ = some (.int .i64 a2) := (blk_cell BKX.out 2).trans rfl
      have hx3 : w4.cell? ⟨gx, 3, none⟩ = some (.int .i64 a3) := (blk_cell BKX.out 3).trans rfl
      have hx4 : w4.cell? ⟨gx, 4, none⟩ = some (.int .i64 a4) := (blk_cell BKX.out 4).trans rfl
      go_wp2_with fail
      refine (transeptref06_Encode.calls a0 a1 a2 a3 a4 pl pc _ HE.out).mono ?_
      rintro e w5 ⟨v5, rfl, ho, hb⟩
      obtain ⟨A5, c5, e5⟩ := Kd.R_slice ho
      subst e5
      replace BKD := Aside0.mk (blk_below BKD.out hb)
      replace BKX := Aside0.mk (blk_below BKX.out hb)
      replace BKR := Aside0.mk (blk_below BKR.out hb)
      replace HB := Aside0.mk (below_step HB.out hb)
      have HPR := Aside0.mk (Kd.R_reads' ho).2.2
      have HPC := Aside0.mk (Kd.R_reads' ho).2.1
      clear hb ho hz0 h2b hx0 hx1 hx2 hx3 hx4
      have h := H.out
      clear H
      try dsimp only at h
      by_cases h3 : pc = 0
      · rw [if_pos h3] at h
        subst h3
        obtain ⟨⟨ps, pw, pe⟩, hp, h⟩ := Option.bind_eq_some_iff.mp h
        have HP := Aside0.mk hp
        have H := Aside0.mk h
        clear h hp
        have hz0 : w5.cell? ⟨gd, 0, none⟩ = some (.slice A0_0 l0_0.length c0_0) := (blk_cell BKD.out 0).trans rfl
        have hz1 : w5.cell? ⟨gd, 1, none⟩ = some (.slice A0_1 l0_1.length c0_1) := (blk_cell BKD.out 1).trans rfl
        have hx0 : w5.cell? ⟨gx, 0, none⟩ = some (.int .i64 a0) := (blk_cell BKX.out 0).trans rfl
        go_wp2_with fail
        refine (transeptref04_Put.calls k A0_0 c0_0 l0_0 A0_1 c0_1 l0_1 (Int.tmod a0 2) A5 c5 pl ps pw pe _ (Kd.C_below HR0.out HB.out) HC0.out (Kd.C_below HR1.out HB.out) HC1.out HPR.out HPC.out HP.out).mono ?_
        rintro e w6 ⟨v6, u6, rfl, hs6, ht6, hb⟩
        obtain ⟨A6, c6, e6⟩ := Kd.S_slice hs6
        subst e6
        obtain ⟨B6, d6, e6⟩ := Kd.S_slice ht6
        subst e6
        clear hz0 hz1 hx0
        replace BKD := Aside0.mk (blk_below BKD.out hb)
        replace BKX := Aside0.mk (blk_below BKX.out hb)
        replace BKR := Aside0.mk (blk_below BKR.out hb)
        replace HB := Aside0.mk (below_step HB.out hb)
        obtain ⟨gp, hgp⟩ : ∃ gp, gp = w6.heap.size := ⟨_, rfl⟩
        obtain ⟨W6, hW6⟩ : ∃ W6, W6 = w6.alloc (.cells #[.slice A6 ps.length c6, .slice B6 pw.length d6] 42) := ⟨_, rfl⟩
        have hal : Below w6.heap.size w6 W6 := by rw [hW6]; exact below_alloc (Below.refl _ _) _
        have HS := Aside0.mk (Kd.S_below hs6 hal)
        have HT := Aside0.mk (Kd.S_below ht6 hal)
        have BKP := Aside0.mk (show W6.heap[gp]? = some (.cells #[.slice A6 ps.length c6, .slice B6 pw.length d6] 42 (0, 0)) from by rw [hW6, hgp]; exact blk_new _ _)
        clear hb
        have hb := hal
        replace BKD := Aside0.mk (blk_below BKD.out hb)
        replace BKX := Aside0.mk (blk_below BKX.out hb)
        replace BKR := Aside0.mk (blk_below BKR.out hb)
        replace HB := Aside0.mk (below_step HB.out hb)
        have HW := Aside0.mk hW6
        have HG := Aside0.mk hgp
        clear hb hal hW6 hgp hs6 ht6
        have h := H.out
        clear H
        try dsimp only at h
        by_cases h4 : pe = 0
        · rw [if_pos h4] at h
          subst h4
          obtain ⟨⟨fs, fw, fe⟩, hf, h⟩ := Option.bind_eq_some_iff.mp h
          obtain ⟨rfl, rfl, rfl⟩ : fs = r1 ∧ fw = r2 ∧ fe = r3 := by simpa using h
          have HF := Aside0.mk hf
          clear h hf
          go_wp2_with fail
          rw [← HW.out, ← HG.out]
          clear HW HG
          refine (transeptref04_Flush.calls k A6 c6 ps B6 d6 pw fs fw fe _ (Kd.S_reads' HS.out).2.2 (Kd.S_reads' HS.out).2.1 (Kd.S_reads' HT.out).2.2 (Kd.S_reads' HT.out).2.1 HF.out).mono ?_
          rintro e w7 ⟨v7, u7, rfl, hs7, ht7, hb⟩
          obtain ⟨A7, c7, e7⟩ := Kd.S_slice hs7
          subst e7
          obtain ⟨B7, d7, e7⟩ := Kd.S_slice ht7
          subst e7
          have hle := HB.out.size
          replace BKR := Aside0.mk (blk_below BKR.out hb)
          replace HB := Aside0.mk (below_step HB.out hb)
          have HU := Aside0.mk (Kd.S_lower hs7 hle)
          have HV := Aside0.mk (Kd.S_lower ht7 hle)
          clear hb hs7 ht7 hle
          have hr0 : w7.cell? ⟨gr, 0, none⟩ = some (.slice none 0 0) := (blk_cell BKR.out 0).trans rfl
          have hr1 : w7.cell? ⟨gr, 1, none⟩ = some (.slice none 0 0) := (blk_cell BKR.out 1).trans rfl
          have hf0 := blk_frozen BKR.out 0
          have hf1 := blk_frozen BKR.out 1
          go_wp2_with fail
          refine bodyPost_ret (results_ct rfl _ _ gr 42 #[.slice A7 fs.length c7, .slice B7 fw.length d7] (0, 0) _ rfl (blk_put (blk_put BKR.out 0 _ rfl) 1 _ rfl) Try.underlying42 rfl (by kernel_rfl)) rfl ?_
          exact ⟨_, _, rfl, Kd.S_set (Kd.S_set HU.out BKR.out (by decide) 0 _) (blk_put BKR.out 0 _ rfl) (by decide) 1 _, Kd.S_set (Kd.S_set HV.out BKR.out (by decide) 0 _) (blk_put BKR.out 0 _ rfl) (by decide) 1 _, (HB.out.setCell (p := ⟨gr, 0, none⟩) GR.out _).setCell (p := ⟨gr, 1, none⟩) GR.out _⟩
        · rw [if_neg h4] at h
          obtain ⟨rfl, rfl, rfl⟩ : [] = r1 ∧ [] = r2 ∧ pe = r3 := by simpa using h
          have h4b : (pe != 0) = true := bne_iff_ne.2 h4
          clear h h4
          have hr0 : (w6.alloc (.cells #[.slice A6 ps.length c6, .slice B6 pw.length d6] 42)).cell? ⟨gr, 0, none⟩ = some (.slice none 0 0) := by rw [← HW.out]; exact (blk_cell BKR.out 0).trans rfl
          have hr1 : (w6.alloc (.cells #[.slice A6 ps.length c6, .slice B6 pw.length d6] 42)).cell? ⟨gr, 1, none⟩ = some (.slice none 0 0) := by rw [← HW.out]; exact (blk_cell BKR.out 1).trans rfl
          have hf0 : (w6.alloc (.cells #[.slice A6 ps.length c6, .slice B6 pw.length d6] 42)).frozen? ⟨gr, 0, none⟩ = false := by rw [← HW.out]; exact blk_frozen BKR.out 0
          have hf1 : (w6.alloc (.cells #[.slice A6 ps.length c6, .slice B6 pw.length d6] 42)).frozen? ⟨gr, 1, none⟩ = false := by rw [← HW.out]; exact blk_frozen BKR.out 1
          go_wp2_with fail
          rw [← HW.out]
          refine bodyPost_ret (results_ct rfl _ _ gr 42 #[.slice none 0 0, .slice none 0 0] (0, 0) _ rfl (blk_put (blk_put BKR.out 0 _ rfl) 1 _ rfl) Try.underlying42 rfl (by kernel_rfl)) rfl ?_
          exact ⟨_, _, rfl, Kd.S_nil _ _ _ _ _, Kd.S_nil _ _ _ _ _, (HB.out.setCell (p := ⟨gr, 0, none⟩) GR.out _).setCell (p := ⟨gr, 1, none⟩) GR.out _⟩
      · rw [if_neg h3] at h
        obtain ⟨rfl, rfl, rfl⟩ : [] = r1 ∧ [] = r2 ∧ pc = r3 := by simpa using h
        have h3b : (pc != 0) = true := bne_iff_ne.2 h3
        clear h h3
        have hr0 : w5.cell? ⟨gr, 0, none⟩ = some (.slice none 0 0) := (blk_cell BKR.out 0).trans rfl
        have hr1 : w5.cell? ⟨gr, 1, none⟩ = some (.slice none 0 0) := (blk_cell BKR.out 1).trans rfl
        have hf0 := blk_frozen BKR.out 0
        have hf1 := blk_frozen BKR.out 1
        go_wp2_with fail
        refine bodyPost_ret (results_ct rfl _ _ gr 42 #[.slice none 0 0, .slice none 0 0] (0, 0) _ rfl (blk_put (blk_put BKR.out 0 _ rfl) 1 _ rfl) Try.underlying42 rfl (by kernel_rfl)) rfl ?_
        exact ⟨_, _, rfl, Kd.S_nil _ _ _ _ _, Kd.S_nil _ _ _ _ _, (HB.out.setCell (p := ⟨gr, 0, none⟩) GR.out _).setCell (p := ⟨gr, 1, none⟩) GR.out _⟩
  · rw [if_neg h0] at h
    obtain ⟨rfl, rfl, rfl⟩ : [] = r1 ∧ [] = r2 ∧ c = r3 := by simpa using h
    have h0b : (c != 0) = true := bne_iff_ne.2 h0
    clear h h0
    have hr0 : w4.cell? ⟨gr, 0, none⟩ = some (.slice none 0 0) := (blk_cell BKR.out 0).trans rfl
    have hr1 : w4.cell? ⟨gr, 1, none⟩ = some (.slice none 0 0) := (blk_cell BKR.out 1).trans rfl
    have hf0 := blk_frozen BKR.out 0
    have hf1 := blk_frozen BKR.out 1
    go_wp2_with fail
    refine bodyPost_ret (results_ct rfl _ _ gr 42 #[.slice none 0 0, .slice none 0 0] (0, 0) _ rfl (blk_put (blk_put BKR.out 0 _ rfl) 1 _ rfl) Try.underlying42 rfl (by kernel_rfl)) rfl ?_
    exact ⟨_, _, rfl, Kd.S_nil _ _ _ _ _, Kd.S_nil _ _ _ _ _, (HB.out.setCell (p := ⟨gr, 0, none⟩) GR.out _).setCell (p := ⟨gr, 1, none⟩) GR.out _⟩
end Go.Proofs.Ytiiphlfgdkjjiaa.Q
namespace Go.Proofs.Ytiiphlfgdkjjiaa.Q
open Go.RowKit Go.Proofs.YtiiphlfgdkjjiaaW.PrintWords Go.Proofs.YtiiphlfgdkjjiaaW.PrintLast Go.Proofs.YtiiphlfgdkjjiaaW.PrintMore
open Go.Proofs.Ytiiphlfgdkjjiaa.CrcP
set_option linter.unusedVariables false
set_option linter.unusedSimpArgs false

def transeptlaw06_SuperDisks.f (k : Nat) (l0 : List (List Int)) (l1 : List Wp) (a0 a1 a2 a3 a4 : Int) : Option Bool :=
  (transeptlaw04_Of.f k l0 l1).bind fun o => (super_Load.f k o.1 o.2).bind fun p => (transeptref06_Load.f k l0 l1).bind fun q => (super_Store.f k o.1 o.2 a0 a1 a2 a3 a4).bind fun s => (transeptref06_Store.f k l0 l1 a0 a1 a2 a3 a4).bind fun t =>
    (transeptlaw04_Alike.f k s.1 s.2.1 t.1 t.2.1).bind fun x => (transeptlaw04_Alike.f k o.1 o.2 l0 l1).bind fun y => if p = q ∧ s.2.2 = t.2.2 ∧ x = 0 ∧ y = 0 then some true else none

set_option maxHeartbeats 16000000 in
set_option maxRecDepth 100000 in
theorem transeptlaw06_SuperDisks.calls (k : Nat) (A0_0 : Option Addr) (c0_0 : Nat) (l0_0 : List (List Int)) (A0_1 : Option Addr) (c0_1 : Nat) (l0_1 : List Wp) (a0 a1 a2 a3 a4 : Int) (r : Bool) (w : World) (hr0_0 : Kd.C kB w A0_0 l0_0.length l0_0) (hc0_0 : l0_0.length ≤ c0_0) (hr0_1 : Kd.C kP w A0_1 l0_1.length l0_1) (hc0_1 : l0_1.length ≤ c0_1) (h : transeptlaw06_SuperDisks.f k l0_0 l0_1 a0 a1 a2 a3 a4 = some r) :
    Calls Try.prog 13 #[.agg #[.slice A0_0 l0_0.length c0_0, .slice A0_1 l0_1.length c0_1], .agg #[.int .i64 a0, .int .i64 a1, .int .i64 a2, .int .i64 a3, .int .i64 a4]] w fun e w' => e = .returned (.bool r) ∧ Below w.heap.size w w' := by
  have hu := Try.underlying33
  have hur := Try.underlying23
  have hud := Try.underlying28
  have hut := Try.underlying42
  have HR0 := Aside0.mk hr0_0
  have HC0 := Aside0.mk hc0_0
  have HR1 := Aside0.mk hr0_1
  have HC1 := Aside0.mk hc0_1
  clear hr0_0 hc0_0 hr0_1 hc0_1
  unfold transeptlaw06_SuperDisks.f at h
  obtain ⟨⟨o0, o1⟩, hof, h⟩ := Option.bind_eq_some_iff.mp h
  dsimp only at h
  obtain ⟨⟨s0, s1, s2, s3, s4, n, i⟩, hsl, h⟩ := Option.bind_eq_some_iff.mp h
  obtain ⟨q, hrl, h⟩ := Option.bind_eq_some_iff.mp h
  obtain ⟨⟨ps, pw, pe⟩, hss, h⟩ := Option.bind_eq_some_iff.mp h
  obtain ⟨⟨qs, qw, qe⟩, hrs, h⟩ := Option.bind_eq_some_iff.mp h
  dsimp only at h
  obtain ⟨x, hal1, h⟩ := Option.bind_eq_some_iff.mp h
  obtain ⟨y, hal2, h⟩ := Option.bind_eq_some_iff.mp h
  have hc : (s0, s1, s2, s3, s4, n, i) = q ∧ pe = qe ∧ x = 0 ∧ y = 0 := by
    by_cases c : (s0, s1, s2, s3, s4, n, i) = q ∧ pe = qe ∧ x = 0 ∧ y = 0
    · exact c
    · rw [if_neg c] at h; exact absurd h (by simp)
  rw [if_pos hc] at h
  obtain rfl := Option.some.inj h
  obtain ⟨rfl, rfl, rfl, rfl⟩ := hc
  have HOF := Aside0.mk hof
  have HSL := Aside0.mk hsl
  have HRL := Aside0.mk hrl
  have HSS := Aside0.mk hss
  have HRS := Aside0.mk hrs
  have HAL1 := Aside0.mk hal1
  have HAL2 := Aside0.mk hal2
  clear hof hsl hrl hss hrs hal1 hal2
  go_enter Try.func13, Try.ntmps13
  go_wp2_with (first
    | ((with_reducible refine gate_dst (N := 2) rfl ?_); refine box_event ?hg (N := 2) ?hd (cs := #[.slice A0_0 l0_0.length c0_0, .slice A0_1 l0_1.length c0_1]) (t := 42) ?hr ?_; (case hd => rfl); (case hg => rfl); (case hr => first | (go_simp; done) | (go_simp; rfl)); intro gd hgd w1 hbox hb; have HB1 := Aside0.mk hb; have BKD1 := Aside0.mk hbox; clear hb hbox hgd)
    | ((with_reducible refine gate_dst (N := 3) rfl ?_); refine box_event ?hg (N := 3) ?hd (cs := #[.int .i64 a0, .int .i64 a1, .int .i64 a2, .int .i64 a3, .int .i64 a4]) (t := 23) ?hr ?_; (case hd => rfl); (case hg => rfl); (case hr => first | (go_simp; done) | (go_simp; rfl)); intro gx hgx w2 hbox hb; have HB2 := Aside0.mk (below_step HB1.out hb); have BKX2 := Aside0.mk hbox; have BKD2 := Aside0.mk (blk_below BKD1.out hb); clear hb hbox hgx; have hz0 : w2.cell? ⟨gd, 0, none⟩ = some (.slice A0_0 l0_0.length c0_0) := (blk_cell BKD2.out 0).trans rfl; have hz1 : w2.cell? ⟨gd, 1, none⟩ = some (.slice A0_1 l0_1.length c0_1) := (blk_cell BKD2.out 1).trans rfl))
  clear hz0 hz1 BKD1 HB1
  refine (transeptlaw04_Of.calls k A0_0 c0_0 l0_0 A0_1 c0_1 l0_1 o0 o1 _ (Kd.C_below HR0.out HB2.out) HC0.out (Kd.C_below HR1.out HB2.out) HC1.out HOF.out).mono ?_
  rintro e w3 ⟨v0, v1, rfl, hs0, hs1, hb⟩
  obtain ⟨A3, c3, e3⟩ := Kd.S_slice hs0
  subst e3
  obtain ⟨B3, d3, e3⟩ := Kd.S_slice hs1
  subst e3
  obtain ⟨go, hgo⟩ : ∃ go, go = w3.heap.size := ⟨_, rfl⟩
  obtain ⟨W3, hW3⟩ : ∃ W3, W3 = w3.alloc (.cells #[.slice A3 o0.length c3, .slice B3 o1.length d3] 28) := ⟨_, rfl⟩
  have hal : Below w3.heap.size w3 W3 := by rw [hW3]; exact below_alloc (Below.refl _ _) _
  have HS3 := Aside0.mk (Kd.S_below hs0 hal)
  have HT3 := Aside0.mk (Kd.S_below hs1 hal)
  have BKO3 := Aside0.mk (show W3.heap[go]? = some (.cells #[.slice A3 o0.length c3, .slice B3 o1.length d3] 28 (0, 0)) from by rw [hW3, hgo]; exact blk_new _ _)
  have hb := below_step hb hal
  have BKD3 := Aside0.mk (blk_below BKD2.out hb)
  have BKX3 := Aside0.mk (blk_below BKX2.out hb)
  have HB3 := Aside0.mk (below_step HB2.out hb)
  have HW := Aside0.mk hW3
  have HG := Aside0.mk hgo
  clear hb hal hW3 hgo hs0 hs1 BKD2 BKX2 HB2
  go_wp2_with fail
  rw [← HW.out, ← HG.out]
  clear HW HG h
  refine (super_Load.calls k A3 c3 o0 B3 d3 o1 s0 s1 s2 s3 s4 n i _ (Kd.S_reads' HS3.out).2.2 (Kd.S_reads' HS3.out).2.1 (Kd.S_reads' HT3.out).2.2 (Kd.S_reads' HT3.out).2.1 HSL.out).mono ?_
  rintro e w4 ⟨rfl, hb⟩
  obtain ⟨ga, hga⟩ : ∃ ga, ga = w4.heap.size := ⟨_, rfl⟩
  obtain ⟨W4, hW4⟩ : ∃ W4, W4 = w4.alloc (.cells #[.int .i64 s0, .int .i64 s1, .int .i64 s2, .int .i64 s3, .int .i64 s4] 33) := ⟨_, rfl⟩
  have hal : Below w4.heap.size w4 W4 := by rw [hW4]; exact below_alloc (Below.refl _ _) _
  have BKA4 := Aside0.mk (show W4.heap[ga]? = some (.cells #[.int .i64 s0, .int .i64 s1, .int .i64 s2, .int .i64 s3, .int .i64 s4] 33 (0, 0)) from by rw [hW4, hga]; exact blk_new _ _)
  have hb := below_step hb hal
  have BKO4 := Aside0.mk (blk_below BKO3.out hb)
  have BKD4 := Aside0.mk (blk_below BKD3.out hb)
  have BKX4 := Aside0.mk (blk_below BKX3.out hb)
  have HS4 := Aside0.mk (Kd.S_below HS3.out hb)
  have HT4 := Aside0.mk (Kd.S_below HT3.out hb)
  have HB4 := Aside0.mk (below_step HB3.out hb)
  have HW := Aside0.mk hW4
  have HG := Aside0.mk hga
  clear hb hal hW4 hga HB3 BKO3 BKD3 BKX3 HS3 HT3
  have hz0 : (w4.alloc (.cells #[.int .i64 s0, .int .i64 s1, .int .i64 s2, .int .i64 s3, .int .i64 s4] 33)).cell? ⟨gd, 0, none⟩ = some (.slice A0_0 l0_0.length c0_0) := by rw [← HW.out]; exact (blk_cell BKD4.out 0).trans rfl
  have hz1 : (w4.alloc (.cells #[.int .i64 s0, .int .i64 s1, .int .i64 s2, .int .i64 s3, .int .i64 s4] 33)).cell? ⟨gd, 1, none⟩ = some (.slice A0_1 l0_1.length c0_1) := by rw [← HW.out]; exact (blk_cell BKD4.out 1).trans rfl
  go_wp2_with fail
  rw [← HW.out, ← HG.out]
  clear HW HG hz0 hz1
  refine (transeptref06_Load.calls k A0_0 c0_0 l0_0 A0_1 c0_1 l0_1 s0 s1 s2 s3 s4 n i _ (Kd.C_below HR0.out HB4.out) HC0.out (Kd.C_below HR1.out HB4.out) HC1.out HRL.out).mono ?_
  rintro e w5 ⟨rfl, hb⟩
  obtain ⟨gb, hgb⟩ : ∃ gb, gb = w5.heap.size := ⟨_, rfl⟩
  obtain ⟨W5, hW5⟩ : ∃ W5, W5 = w5.alloc (.cells #[.int .i64 s0, .int .i64 s1, .int .i64 s2, .int .i64 s3, .int .i64 s4] 23) := ⟨_, rfl⟩
  have hal : Below w5.heap.size w5 W5 := by rw [hW5]; exact below_alloc (Below.refl _ _) _
  have BKB5 := Aside0.mk (show W5.heap[gb]? = some (.cells #[.int .i64 s0, .int .i64 s1, .int .i64 s2, .int .i64 s3, .int .i64 s4] 23 (0, 0)) from by rw [hW5, hgb]; exact blk_new _ _)
  have hb := below_step hb hal
  have BKA5 := Aside0.mk (blk_below BKA4.out hb)
  have BKO5 := Aside0.mk (blk_below BKO4.out hb)
  have BKD5 := Aside0.mk (blk_below BKD4.out hb)
  have BKX5 := Aside0.mk (blk_below BKX4.out hb)
  have HS5 := Aside0.mk (Kd.S_below HS4.out hb)
  have HT5 := Aside0.mk (Kd.S_below HT4.out hb)
  have HB5 := Aside0.mk (below_step HB4.out hb)
  have HW := Aside0.mk hW5
  have HG := Aside0.mk hgb
  clear hb hal hW5 hgb HB4 BKA4 BKO4 BKD4 BKX4 HS4 HT4
  have ho0 : (w5.alloc (.cells #[.int .i64 s0, .int .i64 s1, .int .i64 s2, .int .i64 s3, .int .i64 s4] 23)).cell? ⟨go, 0, none⟩ = some (.slice A3 o0.length c3) := by rw [← HW.out]; exact (blk_cell BKO5.out 0).trans rfl
  have ho1 : (w5.alloc (.cells #[.int .i64 s0, .int .i64 s1, .int .i64 s2, .int .i64 s3, .int .i64 s4] 23)).cell? ⟨go, 1, none⟩ = some (.slice B3 o1.length d3) := by rw [← HW.out]; exact (blk_cell BKO5.out 1).trans rfl
  have hx0 : (w5.alloc (.cells #[.int .i64 s0, .int .i64 s1, .int .i64 s2, .int .i64 s3, .int .i64 s4] 23)).cell? ⟨gx, 0, none⟩ = some (.int .i64 a0) := by rw [← HW.out]; exact (blk_cell BKX5.out 0).trans rfl
  have hx1 : (w5.alloc (.cells #[.int .i64 s0, .int .i64 s1, .int .i64 s2, .int .i64 s3, .int .i64 s4] 23)).cell? ⟨gx, 1, none⟩ = some (.int .i64 a1) := by rw [← HW.out]; exact (blk_cell BKX5.out 1).trans rfl
  have hx2 : (w5.alloc (.cells #[.int .i64 s0, .int .i64 s1, .int .i64 s2, .int .i64 s3, .int .i64 s4] 23)).cell? ⟨gx, 2, none⟩ = some (.int .i64 a2) := by rw [← HW.out]; exact (blk_cell BKX5.out 2).trans rfl
  have hx3 : (w5.alloc (.cells #[.int .i64 s0, .int .i64 s1, .int .i64 s2, .int .i64 s3, .int .i64 s4] 23)).cell? ⟨gx, 3, none⟩ = some (.int .i64 a3) := by rw [← HW.out]; exact (blk_cell BKX5.out 3).trans rfl
  have hx4 : (w5.alloc (.cells #[.int .i64 s0, .int .i64 s1, .int .i64 s2, .int .i64 s3, .int .i64 s4] 23)).cell? ⟨gx, 4, none⟩ = some (.int .i64 a4) := by rw [← HW.out]; exact (blk_cell BKX5.out 4).trans rfl
  go_wp2_with fail
  rw [← HW.out, ← HG.out]
  clear HW HG ho0 ho1 hx0 hx1 hx2 hx3 hx4
  refine (super_Store.calls k A3 c3 o0 B3 d3 o1 a0 a1 a2 a3 a4 ps pw pe _ (Kd.S_reads' HS5.out).2.2 (Kd.S_reads' HS5.out).2.1 (Kd.S_reads' HT5.out).2.2 (Kd.S_reads' HT5.out).2.1 HSS.out).mono ?_
  rintro e w6 ⟨v6, u6, rfl, hs6, ht6, hb⟩
  obtain ⟨A6, c6, e6⟩ := Kd.S_slice hs6
  subst e6
  obtain ⟨B6, d6, e6⟩ := Kd.S_slice ht6
  subst e6
  obtain ⟨gs, hgs⟩ : ∃ gs, gs = w6.heap.size := ⟨_, rfl⟩
  obtain ⟨W6, hW6⟩ : ∃ W6, W6 = w6.alloc (.cells #[.slice A6 ps.length c6, .slice B6 pw.length d6] 28) := ⟨_, rfl⟩
  have hal : Below w6.heap.size w6 W6 := by rw [hW6]; exact below_alloc (Below.refl _ _) _
  have HP6 := Aside0.mk (Kd.S_below hs6 hal)
  have HQ6 := Aside0.mk (Kd.S_below ht6 hal)
  have BKS6 := Aside0.mk (show W6.heap[gs]? = some (.cells #[.slice A6 ps.length c6, .slice B6 pw.length d6] 28 (0, 0)) from by rw [hW6, hgs]; exact blk_new _ _)
  have hb := below_step hb hal
  have BKA6 := Aside0.mk (blk_below BKA5.out hb)
  have BKB6 := Aside0.mk (blk_below BKB5.out hb)
  have BKO6 := Aside0.mk (blk_below BKO5.out hb)
  have BKD6 := Aside0.mk (blk_below BKD5.out hb)
  have BKX6 := Aside0.mk (blk_below BKX5.out hb)
  have HS6 := Aside0.mk (Kd.S_below HS5.out hb)
  have HT6 := Aside0.mk (Kd.S_below HT5.out hb)
  have HB6 := Aside0.mk (below_step HB5.out hb)
  have HW := Aside0.mk hW6
  have HG := Aside0.mk hgs
  clear hb hal hW6 hgs HB5 BKA5 BKB5 BKO5 BKD5 BKX5 HS5 HT5 hs6 ht6
  have hz0 : (w6.alloc (.cells #[.slice A6 ps.length c6, .slice B6 pw.length d6] 28)).cell? ⟨gd, 0, none⟩ = some (.slice A0_0 l0_0.length c0_0) := by rw [← HW.out]; exact (blk_cell BKD6.out 0).trans rfl
  have hz1 : (w6.alloc (.cells #[.slice A6 ps.length c6, .slice B6 pw.length d6] 28)).cell? ⟨gd, 1, none⟩ = some (.slice A0_1 l0_1.length c0_1) := by rw [← HW.out]; exact (blk_cell BKD6.out 1).trans rfl
  have hx0 : (w6.alloc (.cells #[.slice A6 ps.length c6, .slice B6 pw.length d6] 28)).cell? ⟨gx, 0, none⟩ = some (.int .i64 a0) := by rw [← HW.out]; exact (blk_cell BKX6.out 0).trans rfl
  have hx1 : (w6.alloc (.cells #[.slice A6 ps.length c6, .slice B6 pw.length d6] 28)).cell? ⟨gx, 1, none⟩ = some (.int .i64 a1) := by rw [← HW.out]; exact (blk_cell BKX6.out 1).trans rfl
  have hx2 : (w6.alloc (.cells #[.slice A6 ps.length c6, .slice B6 pw.length d6] 28)).cell? ⟨gx, 2, none⟩ = some (.int .i64 a2) := by rw [← HW.out]; exact (blk_cell BKX6.out 2).trans rfl
  have hx3 : (w6.alloc (.cells #[.slice A6 ps.length c6, .slice B6 pw.length d6] 28)).cell? ⟨gx, 3, none⟩ = some (.int .i64 a3) := by rw [← HW.out]; exact (blk_cell BKX6.out 3).trans rfl
  have hx4 : (w6.alloc (.cells #[.slice A6 ps.length c6, .slice B6 pw.length d6] 28)).cell? ⟨gx, 4, none⟩ = some (.int .i64 a4) := by rw [← HW.out]; exact (blk_cell BKX6.out 4).trans rfl
  go_wp2_with fail
  rw [← HW.out, ← HG.out]
  clear HW HG hz0 hz1 hx0 hx1 hx2 hx3 hx4
  refine (transeptref06_Store.calls k A0_0 c0_0 l0_0 A0_1 c0_1 l0_1 a0 a1 a2 a3 a4 qs qw pe _ (Kd.C_below HR0.out HB6.out) HC0.out (Kd.C_below HR1.out HB6.out) HC1.out HRS.out).mono ?_
  rintro e w7 ⟨v7, u7, rfl, hs7, ht7, hb⟩
  obtain ⟨A7, c7, e7⟩ := Kd.S_slice hs7
  subst e7
  obtain ⟨B7, d7, e7⟩ := Kd.S_slice ht7
  subst e7
  obtain ⟨gt, hgt⟩ : ∃ gt, gt = w7.heap.size := ⟨_, rfl⟩
  obtain ⟨W7, hW7⟩ : ∃ W7, W7 = w7.alloc (.cells #[.slice A7 qs.length c7, .slice B7 qw.length d7] 42) := ⟨_, rfl⟩
  have hal : Below w7.heap.size w7 W7 := by rw [hW7]; exact below_alloc (Below.refl _ _) _
  have HU7 := Aside0.mk (Kd.S_below hs7 hal)
  have HV7 := Aside0.mk (Kd.S_below ht7 hal)
  have BKT7 := Aside0.mk (show W7.heap[gt]? = some (.cells #[.slice A7 qs.length c7, .slice B7 qw.length d7] 42 (0, 0)) from by rw [hW7, hgt]; exact blk_new _ _)
  have hb := below_step hb hal
  have BKA7 := Aside0.mk (blk_below BKA6.out hb)
  have BKB7 := Aside0.mk (blk_below BKB6.out hb)
  have BKO7 := Aside0.mk (blk_below BKO6.out hb)
  have BKD7 := Aside0.mk (blk_below BKD6.out hb)
  have BKX7 := Aside0.mk (blk_below BKX6.out hb)
  have BKS7 := Aside0.mk (blk_below BKS6.out hb)
  have HS7 := Aside0.mk (Kd.S_below HS6.out hb)
  have HT7 := Aside0.mk (Kd.S_below HT6.out hb)
  have HP7 := Aside0.mk (Kd.S_below HP6.out hb)
  have HQ7 := Aside0.mk (Kd.S_below HQ6.out hb)
  have HB7 := Aside0.mk (below_step HB6.out hb)
  have HW := Aside0.mk hW7
  have HG := Aside0.mk hgt
  clear hb hal hW7 hgt HB6 BKA6 BKB6 BKO6 BKD6 BKX6 BKS6 HS6 HT6 HP6 HQ6 hs7 ht7
  have ya0 : (w7.alloc (.cells #[.slice A7 qs.length c7, .slice B7 qw.length d7] 42)).cell? ⟨ga, 0, none⟩ = some (.int .i64 s0) := by rw [← HW.out]; exact (blk_cell BKA7.out 0).trans rfl
  have ya1 : (w7.alloc (.cells #[.slice A7 qs.length c7, .slice B7 qw.length d7] 42)).cell? ⟨ga, 1, none⟩ = some (.int .i64 s1) := by rw [← HW.out]; exact (blk_cell BKA7.out 1).trans rfl
  have ya2 : (w7.alloc (.cells #[.slice A7 qs.length c7, .slice B7 qw.length d7] 42)).cell? ⟨ga, 2, none⟩ = some (.int .i64 s2) := by rw [← HW.out]; exact (blk_cell BKA7.out 2).trans rfl
  have ya3 : (w7.alloc (.cells #[.slice A7 qs.length c7, .slice B7 qw.length d7] 42)).cell? ⟨ga, 3, none⟩ = some (.int .i64 s3) := by rw [← HW.out]; exact (blk_cell BKA7.out 3).trans rfl
  have ya4 : (w7.alloc (.cells #[.slice A7 qs.length c7, .slice B7 qw.length d7] 42)).cell? ⟨ga, 4, none⟩ = some (.int .i64 s4) := by rw [← HW.out]; exact (blk_cell BKA7.out 4).trans rfl
  have yb0 : (w7.alloc (.cells #[.slice A7 qs.length c7, .slice B7 qw.length d7] 42)).cell? ⟨gb, 0, none⟩ = some (.int .i64 s0) := by rw [← HW.out]; exact (blk_cell BKB7.out 0).trans rfl
  have yb1 : (w7.alloc (.cells #[.slice A7 qs.length c7, .slice B7 qw.length d7] 42)).cell? ⟨gb, 1, none⟩ = some (.int .i64 s1) := by rw [← HW.out]; exact (blk_cell BKB7.out 1).trans rfl
  have yb2 : (w7.alloc (.cells #[.slice A7 qs.length c7, .slice B7 qw.length d7] 42)).cell? ⟨gb, 2, none⟩ = some (.int .i64 s2) := by rw [← HW.out]; exact (blk_cell BKB7.out 2).trans rfl
  have yb3 : (w7.alloc (.cells #[.slice A7 qs.length c7, .slice B7 qw.length d7] 42)).cell? ⟨gb, 3, none⟩ = some (.int .i64 s3) := by rw [← HW.out]; exact (blk_cell BKB7.out 3).trans rfl
  have yb4 : (w7.alloc (.cells #[.slice A7 qs.length c7, .slice B7 qw.length d7] 42)).cell? ⟨gb, 4, none⟩ = some (.int .i64 s4) := by rw [← HW.out]; exact (blk_cell BKB7.out 4).trans rfl
  go_wp2_with fail
  rw [← HW.out, ← HG.out]
  clear HW HG ya0 ya1 ya2 ya3 ya4 yb0 yb1 yb2 yb3 yb4
  refine (transeptlaw06_num.calls i i _ rfl).mono ?_
  rintro e w8 ⟨rfl, ⟨⟨m8, rfl⟩⟩⟩
  obtain ⟨W8, hW8⟩ : ∃ W8, W8 = W7.drewN m8 := ⟨_, rfl⟩
  have hb : Below W7.heap.size W7 W8 := by rw [hW8]; exact pw_below_drewN (Below.refl _ _) _
  rw [← hW8]
  have BKS8 := Aside0.mk (blk_below BKS7.out hb)
  have BKT8 := Aside0.mk (blk_below BKT7.out hb)
  have BKO8 := Aside0.mk (blk_below BKO7.out hb)
  have BKD8 := Aside0.mk (blk_below BKD7.out hb)
  have HS8 := Aside0.mk (Kd.S_below HS7.out hb)
  have HT8 := Aside0.mk (Kd.S_below HT7.out hb)
  have HP8 := Aside0.mk (Kd.S_below HP7.out hb)
  have HQ8 := Aside0.mk (Kd.S_below HQ7.out hb)
  have HU8 := Aside0.mk (Kd.S_below HU7.out hb)
  have HV8 := Aside0.mk (Kd.S_below HV7.out hb)
  have HB8 := Aside0.mk (below_step HB7.out hb)
  clear hb hW8 BKA7 BKB7 BKO7 BKD7 BKX7 BKS7 BKT7 HS7 HT7 HP7 HQ7 HU7 HV7 HB7
  have hs0 : W8.cell? ⟨gs, 0, none⟩ = some (.slice A6 ps.length c6) := (blk_cell BKS8.out 0).trans rfl
  have hs1 : W8.cell? ⟨gs, 1, none⟩ = some (.slice B6 pw.length d6) := (blk_cell BKS8.out 1).trans rfl
  have ht0 : W8.cell? ⟨gt, 0, none⟩ = some (.slice A7 qs.length c7) := (blk_cell BKT8.out 0).trans rfl
  have ht1 : W8.cell? ⟨gt, 1, none⟩ = some (.slice B7 qw.length d7) := (blk_cell BKT8.out 1).trans rfl
  go_wp2_with fail
  clear hs0 hs1 ht0 ht1
  refine (transeptlaw04_Alike.calls k A6 c6 ps B6 d6 pw A7 c7 qs B7 d7 qw 0 _ (Kd.S_reads' HP8.out).2.2 (Kd.S_reads' HP8.out).2.1 (Kd.S_reads' HQ8.out).2.2 (Kd.S_reads' HQ8.out).2.1 (Kd.S_reads' HU8.out).2.2 (Kd.S_reads' HU8.out).2.1 (Kd.S_reads' HV8.out).2.2 (Kd.S_reads' HV8.out).2.1 HAL1.out).mono ?_
  rintro e w9 ⟨rfl, hb⟩
  have BKO9 := Aside0.mk (blk_below BKO8.out hb)
  have BKD9 := Aside0.mk (blk_below BKD8.out hb)
  have HS9 := Aside0.mk (Kd.S_below HS8.out hb)
  have HT9 := Aside0.mk (Kd.S_below HT8.out hb)
  have HB9 := Aside0.mk (below_step HB8.out hb)
  clear hb BKO8 BKD8 BKS8 BKT8 HS8 HT8 HP8 HQ8 HU8 HV8 HB8
  go_wp2_with fail
  refine (transeptlaw06_num.calls pe pe _ rfl).mono ?_
  rintro e w10 ⟨rfl, ⟨⟨m10, rfl⟩⟩⟩
  obtain ⟨W10, hW10⟩ : ∃ W10, W10 = w9.drewN m10 := ⟨_, rfl⟩
  have hb : Below w9.heap.size w9 W10 := by rw [hW10]; exact pw_below_drewN (Below.refl _ _) _
  rw [← hW10]
  have BKO10 := Aside0.mk (blk_below BKO9.out hb)
  have BKD10 := Aside0.mk (blk_below BKD9.out hb)
  have HS10 := Aside0.mk (Kd.S_below HS9.out hb)
  have HT10 := Aside0.mk (Kd.S_below HT9.out hb)
  have HB10 := Aside0.mk (below_step HB9.out hb)
  clear hb hW10 BKO9 BKD9 HS9 HT9 HB9
  have hz0 : W10.cell? ⟨gd, 0, none⟩ = some (.slice A0_0 l0_0.length c0_0) := (blk_cell BKD10.out 0).trans rfl
  have hz1 : W10.cell? ⟨gd, 1, none⟩ = some (.slice A0_1 l0_1.length c0_1) := (blk_cell BKD10.out 1).trans rfl
  have ho0 : W10.cell? ⟨go, 0, none⟩ = some (.slice A3 o0.length c3) := (blk_cell BKO10.out 0).trans rfl
  have ho1 : W10.cell? ⟨go, 1, none⟩ = some (.slice B3 o1.length d3) := (blk_cell BKO10.out 1).trans rfl
  go_wp2_with fail
  clear hz0 hz1 ho0 ho1
  refine (transeptlaw04_Alike.calls k A3 c3 o0 B3 d3 o1 A0_0 c0_0 l0_0 A0_1 c0_1 l0_1 0 _ (Kd.S_reads' HS10.out).2.2 (Kd.S_reads' HS10.out).2.1 (Kd.S_reads' HT10.out).2.2 (Kd.S_reads' HT10.out).2.1 (Kd.C_below HR0.out HB10.out) HC0.out (Kd.C_below HR1.out HB10.out) HC1.out HAL2.out).mono ?_
  rintro e w11 ⟨rfl, hb⟩
  have HB11 := Aside0.mk (below_step HB10.out hb)
  clear hb BKO10 BKD10 HS10 HT10 HB10
  go_wp2_with fail
  refine (transeptlaw06_alive.calls true _ rfl).mono ?_
  rintro e w12 ⟨rfl, hb⟩
  have HB12 := Aside0.mk (below_step HB11.out hb)
  clear hb
  go_wp2_with fail
  go_ret
  exact ⟨rfl, HB12.out⟩
end Go.Proofs.Ytiiphlfgdkjjiaa.Q
