/- disk's Put; no condition but that the state may be where asked says so. -/
import Derived.Test.YtiiphlfgdkjjiaaZDisksDLand
import Derived.Test.YtiiphlfgdkjjiaaZDisksQ11
import Derived.RangeFuncNested
import Derived.RangeFuncBox
import Derived.RangeFuncLeaves
import Derived.Shelf.Abstract
import Derived.WalkKit
import Derived.OwnWalkIn
import Derived.TacticsInMore
import Derived.LoopNIn
import Derived.LoopIn
import Derived.Test.YtiiphlfgdkjjiaaProg
namespace Go.Proofs.Ytiiphlfgdkjjiaa.Q
open Go.RowKit Go.Proofs.YtiiphlfgdkjjiaaW.PrintWords Go.Proofs.YtiiphlfgdkjjiaaW.PrintLast Go.Proofs.YtiiphlfgdkjjiaaW.PrintMore
set_option linter.unusedVariables false
set_option linter.unusedSimpArgs false

/-- 64 octets: the data, and zeros behind it. -/
def padded (d : List Int) : List Int := d ++ List.replicate (64 - d.length) 0
def disk_Put.f (k : Nat) (l0 : List (List Int)) (l1 : List S61) (sec : Int) (d : List Int) : Option (List (List Int) × List S61 × Int) :=
  (disk_asked.f k l0 l1 sec).bind fun c => if c = 0 then (if (d.length : Int) > 64 then some ([], [], 5) else if (l1.length : Int) ≥ 4096 then some ([], [], 51) else if okS l0 l1 = true then some (l0, l1 ++ [⟨sec, padded d⟩], 0) else none) else some ([], [], c)
theorem pad_eq {d : List Int} (h : ¬ (d.length : Int) > 64) : d.take (min d.length (List.replicate 64 (0 : Int)).length) ++ (List.replicate 64 (0 : Int)).drop (min d.length (List.replicate 64 (0 : Int)).length) = padded d := by
  rw [List.length_replicate, Nat.min_eq_left (by omega), List.take_length, List.drop_replicate, padded]
theorem below_of_grown {W W1 : World} (h : W.grownBy W1 none) : Below W.heap.size W W1 := ⟨h.os, h.tape, h.output, h.size, fun k hk => h.block k hk (by simp)⟩
theorem put2 {w : World} {g : Nat} {t : TypeId} {a b x y : Value} (h : w.heap[g]? = some (.cells #[a, b] t (0, 0))) : ((w.setCell ⟨g, 0, none⟩ x).setCell ⟨g, 1, none⟩ y).heap[g]? = some (.cells #[x, y] t (0, 0)) := blk_put (blk_put h 0 x rfl) 1 y rfl
theorem below2 {B : Nat} {w0 w : World} {g : Nat} (h : Below B w0 w) (hg : B ≤ g) (x y : Value) : Below B w0 ((w.setCell ⟨g, 0, none⟩ x).setCell ⟨g, 1, none⟩ y) := (h.setCell (p := ⟨g, 0, none⟩) hg x).setCell (p := ⟨g, 1, none⟩) hg y
theorem S_set2 {α : Type} {d : Kd α} {e base g : Nat} {ok : Nat → Prop} {w : World} {v : Value} {xs : List α} {t : TypeId} {a b : Value} (h : Kd.S d e w base ok v xs) (hb : w.heap[g]? = some (.cells #[a, b] t (0, 0))) (ht : ∀ q, q ∈ e :: d.E → q ≠ t) (x y : Value) : Kd.S d e ((w.setCell ⟨g, 0, none⟩ x).setCell ⟨g, 1, none⟩ y) base ok v xs :=
  Kd.S_set (Kd.S_set h hb ht 0 x) (blk_put hb 0 x rfl) ht 1 y

set_option maxHeartbeats 4000000 in
set_option maxRecDepth 100000 in
theorem disk_Put.calls (k : Nat) (A0_0 : Option Addr) (c0_0 : Nat) (l0_0 : List (List Int)) (A0_1 : Option Addr) (c0_1 : Nat) (l0_1 : List S61) (a1 : Int) (A2 : Option Addr) (c2 : Nat) (l2 : List Int) (r1 : List (List Int)) (r2 : List S61) (r3 : Int) (w : World) (hr0_0 : Kd.C kB w A0_0 l0_0.length l0_0) (hc0_0 : l0_0.length ≤ c0_0) (hr0_1 : Kd.C kW w A0_1 l0_1.length l0_1) (hc0_1 : l0_1.length ≤ c0_1) (hr2 : Kd.C (Kd.int .u8) w A2 l2.length l2) (hc2 : l2.length ≤ c2) (h : disk_Put.f k l0_0 l0_1 a1 l2 = some (r1, r2, r3)) :
    Calls Try.prog 30 #[.agg #[.slice A0_0 l0_0.length c0_0, .slice A0_1 l0_1.length c0_1], .int .i64 a1, .slice A2 l2.length c2] w fun e w' => ∃ v0_ v1_ : Value, e = .returned (.tuple #[.agg #[v0_, v1_], .int .i64 r3]) ∧ Kd.S kB 50 w' w.heap.size (fun _ => True) v0_ r1 ∧ Kd.S kW 61 w' w.heap.size (fun _ => True) v1_ r2 ∧ Below w.heap.size w w' := by
  have hu := Try.underlying28
  have huw := Try.underlying61
  have HR0 := Aside0.mk hr0_0
  have HC0 := Aside0.mk hc0_0
  have HR1 := Aside0.mk hr0_1
  have HC1 := Aside0.mk hc0_1
  have HR2 := Aside0.mk hr2
  have HC2 := Aside0.mk hc2
  clear hr0_0 hc0_0 hr0_1 hc0_1 hr2 hc2
  unfold disk_Put.f at h
  replace h := Option.bind_eq_some_iff.mp h
  obtain ⟨t0, ht0, h⟩ := h
  have HT := Aside0.mk ht0
  have H := Aside0.mk h
  clear ht0 h
  go_enter Try.func30, Try.ntmps30
  go_wp2_with (first
    | ((with_reducible refine gate_dst (N := 3) rfl ?_); refine box_event ?hg (N := 3) ?hd (cs := #[.slice A0_0 l0_0.length c0_0, .slice A0_1 l0_1.length c0_1]) (t := 28) ?hr ?_; (case hd => rfl); (case hg => rfl); (case hr => first | (go_simp; done) | (go_simp; rfl)); intro gs hgs w1 hbox hb; have HB := Aside0.mk hb; have BKS := Aside0.mk hbox; clear hb hbox hgs)
    | ((with_reducible refine gate_dst (N := 6) rfl ?_); refine box_event ?hg (N := 6) ?hd (cs := #[.slice none 0 0, .slice none 0 0]) (t := 28) ?hr ?_; (case hd => rfl); (case hg => rfl); (case hr => first | (go_simp; done) | (go_simp; rfl)); intro gr hgr w2 hbox hb; have GR := Aside0.mk (by have := HB.out.size; omega : w.heap.size ≤ gr); replace BKS := Aside0.mk (blk_below BKS.out hb); replace HB := Aside0.mk (below_step HB.out hb); have BKR := Aside0.mk hbox; clear hb hbox hgr; have hz0 := (blk_cell BKS.out 0).trans rfl; have hz1 := (blk_cell BKS.out 1).trans rfl))
  refine (disk_asked.calls k _ _ l0_0 _ _ l0_1 a1 t0 _ (Kd.C_below HR0.out HB.out) HC0.out (Kd.C_below HR1.out HB.out) HC1.out HT.out).mono ?_
  rintro e w4 ⟨rfl, hb⟩
  clear hz0 hz1
  replace BKS := Aside0.mk (blk_below BKS.out hb)
  replace BKR := Aside0.mk (blk_below BKR.out hb)
  replace HB := Aside0.mk (below_step HB.out hb)
  clear hb
  have h := H.out
  clear H
  by_cases c1 : t0 = 0
  · rw [if_pos c1] at h
    have c1b : (t0 != 0) = false := by simp [c1]
    by_cases c2 : (l2.length : Int) > 64
    · rw [if_pos c2] at h
      have c2b := decide_eq_true c2
      obtain ⟨rfl, rfl, rfl⟩ : [] = r1 ∧ [] = r2 ∧ 5 = r3 := by simpa using h
      have hr0 : w4.cell? ⟨gr, 0, none⟩ = some (.slice none 0 0) := (blk_cell BKR.out 0).trans rfl
      have hr1 : w4.cell? ⟨gr, 1, none⟩ = some (.slice none 0 0) := (blk_cell BKR.out 1).trans rfl
      have hf0 := blk_frozen BKR.out 0
      have hf1 := blk_frozen BKR.out 1
      go_wp2_with fail
      refine bodyPost_ret (results_ct rfl _ _ gr 28 #[.slice none 0 0, .slice none 0 0] (0, 0) _ rfl (put2 BKR.out) Try.underlying28 rfl (by kernel_rfl)) rfl ?_
      exact ⟨_, _, rfl, Kd.S_nil _ _ _ _ _, Kd.S_nil _ _ _ _ _, below2 HB.out GR.out _ _⟩
    rw [if_neg c2] at h
    have HPAD := Aside0.mk (pad_eq c2)
    have c2b := decide_eq_false c2
    have hz1 : w4.cell? ⟨gs, 1, none⟩ = some (.slice A0_1 l0_1.length c0_1) := (blk_cell BKS.out 1).trans rfl
    by_cases c3 : (l0_1.length : Int) ≥ 4096
    · rw [if_pos c3] at h
      have c3b := decide_eq_true c3
      obtain ⟨rfl, rfl, rfl⟩ : [] = r1 ∧ [] = r2 ∧ 51 = r3 := by simpa using h
      have hr0 : w4.cell? ⟨gr, 0, none⟩ = some (.slice none 0 0) := (blk_cell BKR.out 0).trans rfl
      have hr1 : w4.cell? ⟨gr, 1, none⟩ = some (.slice none 0 0) := (blk_cell BKR.out 1).trans rfl
      have hf0 := blk_frozen BKR.out 0
      have hf1 := blk_frozen BKR.out 1
      go_wp2_with fail
      refine bodyPost_ret (results_ct rfl _ _ gr 28 #[.slice none 0 0, .slice none 0 0] (0, 0) _ rfl (put2 BKR.out) Try.underlying28 rfl (by kernel_rfl)) rfl ?_
      exact ⟨_, _, rfl, Kd.S_nil _ _ _ _ _, Kd.S_nil _ _ _ _ _, below2 HB.out GR.out _ _⟩
    rw [if_neg c3] at h
    have c3b := decide_eq_false c3
    by_cases c4 : okS l0_0 l0_1 = true
    · rw [if_pos c4] at h
      obtain ⟨rfl, rfl, rfl⟩ : l0_0 = r1 ∧ l0_1 ++ [⟨a1, padded l2⟩] = r2 ∧ 0 = r3 := by simpa using h
      obtain ⟨ho1, ho2, ho3, ho4, ho5⟩ := okS_out c4
      have hz0 : w4.cell? ⟨gs, 0, none⟩ = some (.slice A0_0 l0_0.length c0_0) := (blk_cell BKS.out 0).trans rfl
      go_wp2_with fail
      refine (dclone_any A0_0 c0_0 l0_0 A0_1 c0_1 l0_1 _ (Kd.C_below HR0.out HB.out) (Kd.C_below HR1.out HB.out) ho2 ho3 (fun x hx => by rw [ho4 x hx]; omega) (fun x hx => by rw [(ho5 x hx).2.2]; omega)).mono ?_
      rintro e w5 ⟨v0, v1, rfl, ⟨p, hp0, hp1⟩, hb⟩
      obtain ⟨a0, d0, e0⟩ := Kd.S_slice hp0
      subst e0
      obtain ⟨a1', d1, e1⟩ := Kd.S_slice hp1
      subst e1
      clear hz0 hz1 ho4 ho5 BKS
      have HP0 := Aside0.mk (Kd.S_mono (Kd.S_lower hp0 HB.out.size) (fun _ _ => trivial))
      have HP1 := Aside0.mk (Kd.S_mono (Kd.S_lower hp1 HB.out.size) (fun _ _ => trivial))
      replace BKR := Aside0.mk (blk_below BKR.out hb)
      replace HB := Aside0.mk (below_step HB.out hb)
      clear hp0 hp1 hb c1 c2 c3 c4 h
      go_wp2_with (first
        | ((with_reducible refine gate_dst (N := 33) rfl ?_); refine Kd.R_make (Kd.int .u8) (w0 := w) w.heap.size 5 rfl (N := 33) rfl 50 _ _ rfl 64 rfl rfl Try.underlying50 (.int .u8 0) 1 info5 rfl (by decide) (by omega) 0 (ok := fun _ => True) (okp := fun _ => True) rfl (fun _ hk => hk) trivial (by omega) (by omega) (below_alloc HB.out _) (below_alloc HB.out _).size ?_
           intro v6 w6 ho6 hb6 hg6 hn6
           have BKT := Aside0.mk (blk_grown (blk_new w5 _) hg6 (by simp))
           have GT := Aside0.mk (HB.out.size : w.heap.size ≤ w5.heap.size)
           have NT := Aside0.mk (by have := blk_lt BKR.out; omega : gr ≠ w5.heap.size)
           replace BKR := Aside0.mk (blk_grown (blk_alloc BKR.out _) hg6 (by simp))
           replace HP0 := Aside0.mk (Kd.S_old (Kd.S_alloc HP0.out _) (below_of_grown hg6))
           replace HP1 := Aside0.mk (Kd.S_old (Kd.S_alloc HP1.out _) (below_of_grown hg6))
           obtain ⟨a6, d6, e6⟩ := Kd.R_slice ho6
           subst e6
           rw [List.length_replicate] at ho6 hn6 ⊢
           replace hn6 : ∃ b, (Value.slice a6 64 d6).ownBlock = some b ∧ (w5.alloc (.cells #[.slice a0 l0_0.length d0, .slice a1' l0_1.length d1] 28)).heap.size ≤ b := hn6
           have HAP := Aside0.mk (fun k hk e_ => by obtain ⟨b, hb_, hle⟩ := hn6; rw [hb_] at e_; injection e_ with e_; have := hk.2; omega : ∀ k, True ∧ k < (w5.alloc (.cells #[.slice a0 l0_0.length d0, .slice a1' l0_1.length d1] 28)).heap.size → some k ≠ (Value.slice a6 64 d6).ownBlock)
           have HO := Aside0.mk (show (Kd.int .u8).R 5 w6 w.heap.size (fun _ => True) (.slice a6 64 d6) (List.replicate 64 0) from ho6)
           replace HB := Aside0.mk hb6
           clear hn6
           have NET := Aside0.mk (Kd.R_ne HO.out BKT.out (by decide) : some w5.heap.size ≠ (Value.slice a6 64 d6).ownBlock)
           have NER := Aside0.mk (Kd.R_ne HO.out BKR.out (by decide) : some gr ≠ (Value.slice a6 64 d6).ownBlock)
           clear ho6 hb6 hg6)
        | ((with_reducible refine gate_dst (N := 38) rfl ?_); skip
           refine Kd.R_copy (enc := Value.int .u8) (h1 := fun _ => rfl) (0 : Int) (w0 := w) w.heap.size rfl (.tmp 36) (.tmp 37) 50 50 5 rfl Try.underlying50 (by kernel_rfl) (.slice a6 64 d6) (List.replicate 64 (0 : Int)) l2 A2 l2.length c2 (fun _ => True) rfl rfl (Kd.R_alloc HO.out _) (Kd.C_below HR2.out (below_alloc HB.out _)) (below_alloc HB.out _) (below_alloc HB.out _).size ?_
           intro w7 ho7 hb7 hg7
           rw [HPAD.out] at ho7
           have BKE := Aside0.mk (blk_grown (blk_new w6 _) hg7 (fun e_ => by have := Kd.R_lt HO.out _ e_.symm; omega))
           replace BKT := Aside0.mk (blk_grown (blk_alloc BKT.out _) hg7 NET.out)
           replace BKR := Aside0.mk (blk_grown (blk_alloc BKR.out _) hg7 NER.out)
           replace HP0 := Aside0.mk (Kd.S_mono (Kd.S_grown (Kd.S_alloc HP0.out _) hg7 HAP.out) (fun _ _ => trivial))
           replace HP1 := Aside0.mk (show Kd.S kW 61 w7 w.heap.size (fun k => True ∧ ¬ some k = (Value.slice a6 64 d6).ownBlock) (.slice a1' l0_1.length d1) l0_1 from Kd.S_mono (Kd.S_grown (Kd.S_alloc HP1.out _) hg7 HAP.out) (fun k hk => ⟨trivial, HAP.out k hk⟩))
           replace HO := Aside0.mk ho7
           replace HB := Aside0.mk hb7
           clear ho7 hb7 hg7
           have hz1 := (blk_cell BKT.out 1).trans rfl
           have hy0 := (blk_cell BKE.out 0).trans rfl
           have NEA := Aside0.mk (fun k hk e_ => by
             obtain ⟨c1_, h1_⟩ := Kd.S_typed HP1.out k e_.symm
             obtain ⟨c2_, h2_⟩ := Kd.R_typed HO.out k hk.symm
             rw [h1_] at h2_
             injection h2_ with h2_
             injection h2_ with _ h2_
             exact absurd h2_ (by decide) : ∀ k, some k = (Value.slice a6 64 d6).ownBlock → some k ≠ (Value.slice a1' l0_1.length d1).ownBlock)
           have NT1 := Aside0.mk (Kd.S_ne HP1.out BKT.out (by decide) : some w5.heap.size ≠ (Value.slice a1' l0_1.length d1).ownBlock)
           have NR1 := Aside0.mk (Kd.S_ne HP1.out BKR.out (by decide) : some gr ≠ (Value.slice a1' l0_1.length d1).ownBlock)
           have hy1 := (blk_cell BKE.out 1).trans rfl)
        | ((with_reducible refine gate_builtin (b := .append) (xs := #[.tmp 40, .tmp 42]) rfl ?_); at_builtin
           refine Kd.S_append kW (w0 := w) w.heap.size rfl (.tmp 40) (.tmp 42) 26 61 (.agg #[(.int .i64 0), (.slice none 0 0)]) 32 rfl Try.underlying26 info61 rfl (by show 0 < 2; decide) (by omega) (.slice a1' l0_1.length d1) l0_1 (⟨a1, padded l2⟩ : S61) [.int .i64 a1, .slice a6 64 d6] (fun _ => True) (fun k_ => some k_ = (.slice a6 64 d6 : Value).ownBlock) rfl rfl ?aP ?aK (fun _ _ => trivial) HP1.out HB.out HB.out.size (by omega) ?_
           (case aP => exact k61_mkM _ _ _ (⟨a1, padded l2⟩ : S61) (Kd.R_mono (Kd.R_tight rfl HO.out) (fun _ h_ => h_)))
           (case aK => exact fun k hk => ⟨trivial, NEA.out k hk⟩)
           intro v8 w8 ho8 hb8 hg8 _
           replace HP0 := Aside0.mk (Kd.S_over' HP0.out (Kd.S_typed HP1.out) (by decide) hg8)
           replace BKT := Aside0.mk (blk_grown BKT.out hg8 NT1.out)
           replace BKR := Aside0.mk (blk_grown BKR.out hg8 NR1.out)
           obtain ⟨a8, d8, e8⟩ := Kd.S_slice ho8
           subst e8
           have HP8 := Aside0.mk ho8
           replace HB := Aside0.mk hb8
           clear ho8 hb8 hg8 hz1 hy0 hy1
           have hz0 := (blk_cell BKT.out 0).trans rfl
           have hz1 := (blk_cell BKT.out 1).trans rfl
           have hf1 := blk_frozen BKT.out 1
           have hr0 := (blk_cell BKR.out 0).trans rfl
           have hr1 := (blk_cell BKR.out 1).trans rfl
           have hg0 := blk_frozen BKR.out 0
           have hg1 := blk_frozen BKR.out 1
           have hn1 := NT.out
           have hn2 := NT.out.symm))
      have BKR1 := blk_far BKR.out (p := ⟨w5.heap.size, 1, none⟩) NT.out (.slice a8 (l0_1.length + 1) d8)
      refine bodyPost_ret (results_ct rfl _ _ gr 28 #[.slice a0 l0_0.length d0, .slice a8 (l0_1.length + 1) d8] (0, 0) _ rfl (put2 BKR1) Try.underlying28 rfl (by kernel_rfl)) rfl ?_
      have h8 := HP8.out
      rw [show (l0_1 ++ [(⟨a1, padded l2⟩ : S61)]).length = l0_1.length + 1 from by simp] at h8
      exact ⟨_, _, rfl, S_set2 (Kd.S_set HP0.out BKT.out (by decide) 1 _) BKR1 (by decide) _ _, S_set2 (Kd.S_set h8 BKT.out (by decide) 1 _) BKR1 (by decide) _ _, below2 (HB.out.setCell (p := ⟨w5.heap.size, 1, none⟩) GT.out _) GR.out _ _⟩
    · rw [if_neg c4] at h
      exact absurd h (by simp)
  · rw [if_neg c1] at h
    have c1b : (t0 != 0) = true := by simp [c1]
    obtain ⟨rfl, rfl, rfl⟩ : [] = r1 ∧ [] = r2 ∧ t0 = r3 := by simpa using h
    have hr0 : w4.cell? ⟨gr, 0, none⟩ = some (.slice none 0 0) := (blk_cell BKR.out 0).trans rfl
    have hr1 : w4.cell? ⟨gr, 1, none⟩ = some (.slice none 0 0) := (blk_cell BKR.out 1).trans rfl
    have hf0 := blk_frozen BKR.out 0
    have hf1 := blk_frozen BKR.out 1
    go_wp2_with fail
    refine bodyPost_ret (results_ct rfl _ _ gr 28 #[.slice none 0 0, .slice none 0 0] (0, 0) _ rfl (put2 BKR.out) Try.underlying28 rfl (by kernel_rfl)) rfl ?_
    exact ⟨_, _, rfl, Kd.S_nil _ _ _ _ _, Kd.S_nil _ _ _ _ _, below2 HB.out GR.out _ _⟩
end Go.Proofs.Ytiiphlfgdkjjiaa.Q
namespace Go.Proofs.Ytiiphlfgdkjjiaa.Q
open Go.RowKit Go.Shelf
set_option linter.unusedVariables false
set_option linter.unusedSimpArgs false
attribute [local go_sem] Oper.semAt_some

/-- What has come when k rounds are over. -/
def bk (m k : Nat) : List Nat := (List.range k).map fun j => m - 1 - j
theorem bk_succ (m k : Nat) : bk m (k + 1) = bk m k ++ [m - 1 - k] := by simp [bk, List.range_succ]
theorem blk_add (ad : Addr) (j : Nat) : (ad.add j).block = ad.block := by unfold Addr.add; split <;> rfl
theorem bk_length (m k : Nat) : (bk m k).length = k := by simp [bk]

set_option maxRecDepth 100000 in
set_option maxHeartbeats 2000000 in
theorem back1_in (F : Fence) (n : Nat) (hf : F.fn 74) (hro : F.round = none) (hn : 1 ≤ n) (l Bs n₀ : Nat) (A : Option Addr) (m cap : Nat) (v0 v1 : Nat → Value) (hm : m ≤ 1099511627776) (J Jx : List Nat → World → Prop)
    (hY : ∀ (pre : List Nat) (x : Nat) (W : World), J pre W → pre.length < m → YieldAt F (n - 1) Try.prog l #[.int .i64 (x : Int), .agg #[v0 x, v1 x]] W fun e W' =>
      (e = .returned (.bool true) ∧ J (pre ++ [x]) W' ∧ Below n₀ W W') ∨ (e = .returned (.bool false) ∧ Jx (pre ++ [x]) W'))
    (W : World) (hBn : Bs < n₀) (hBs : W.cell? ⟨Bs, 0, none⟩ = some (.slice A m cap)) (hc : ∀ x, x < m → ∃ ad : Addr, A = some ad ∧ ad.block < n₀ ∧ W.cell? (ad.add (x * 2)) = some (v0 x) ∧ W.cell? ⟨(ad.add (x * 2)).block, (ad.add (x * 2)).off + 1, none⟩ = some (v1 x)) (h0 : J [] W) :
    CallsIn F n Try.prog 74 #[.func (.yield l) #[] #[], .pointer (some ⟨Bs, 0, none⟩)] W fun e W' => (∃ v, e = .returned v) ∧
      ((∃ ys, ys = bk m m ∧ J ys W') ∨ (∃ pre, (∃ k, k ≤ m ∧ pre = bk m k) ∧ Jx pre W')) := by
  refine callsIn_of_wp Try.func74 rfl hf ?_ hro
  simp only [Try.ntmps74, List.size_toArray, List.length_cons, List.length_nil, Nat.reduceAdd, Nat.reduceSub, Array.replicate_succ, Array.replicate_zero, List.push_toArray, List.append_toArray, List.nil_append, List.cons_append]
  gi_wp2
  gi_loopw [3] (fun i wr => ∃ k : Nat, k ≤ m ∧ i = .int .i64 ((m : Int) - 1 - k) ∧ J (bk m k) wr ∧ Below n₀ W wr)
    (fun i _ => (intOf i + 1).toNat)
  case atStart => exact ⟨0, Nat.zero_le _, by go_num, h0, Below.refl _ _⟩
  case round =>
    obtain ⟨k, hk, rfl, hJs, hnx⟩ := hrel
    have hz0 : wr.cell? ⟨Bs, 0, none⟩ = some (.slice A m cap) := (hnx.cell (p := ⟨Bs, 0, none⟩) hBn).trans hBs
    by_cases hlt : k < m
    · obtain ⟨x, hx⟩ : ∃ x : Nat, x = m - 1 - k := ⟨_, rfl⟩
      have hxi : (m : Int) - 1 - k = (x : Int) := by omega
      obtain ⟨ad, rfl, hadb, hc0', hc1'⟩ := hc x (by omega)
      have hc0 : wr.cell? (ad.add (x * 2)) = some (v0 x) := (hnx.cell (by rw [blk_add]; exact hadb)).trans hc0'
      have hc1 : wr.cell? ⟨(ad.add (x * 2)).block, (ad.add (x * 2)).off + 1, none⟩ = some (v1 x) := (hnx.cell (by show (ad.add (x * 2)).block < n₀; rw [blk_add]; exact hadb)).trans hc1'
      obtain ⟨fn, tmps, assign, body, hy, hR⟩ := hY _ x wr hJs (by rw [bk_length]; exact hlt)
      have hxm : x < m := by omega
      have HX : Hid (x = m - 1 - k) := hx
      clear hx hc0' hc1' hc
      rw [hxi]
      gi_wp2
      refine hR.mono ?_
      rintro e W3 (⟨rfl, hJ3, hk3⟩ | ⟨rfl, hJx3⟩)
      · gi_wp2
        go_roundw
        case rel => exact ⟨k + 1, by omega, by have := show x = m - 1 - k from HX; go_num, by rw [bk_succ, ← show x = m - 1 - k from HX]; exact hJ3, hnx.trans hk3⟩
        case measure => first | (simp [intOf]; done) | (simp [intOf]; omega)
      · gi_wp2
        refine bodyPost_ret (results_none rfl _ _ _) rfl ?_
        exact ⟨⟨_, rfl⟩, .inr ⟨_, ⟨k + 1, by omega, by rw [bk_succ, ← show x = m - 1 - k from HX]⟩, hJx3⟩⟩
    · obtain rfl : k = m := by omega
      rw [show (k : Int) - 1 - k = -1 from by omega]
      gi_wp2
      go_end0
      exact ⟨⟨_, rfl⟩, .inl ⟨_, rfl, hJs⟩⟩

theorem back_stops (F : Fence) (n : Nat) (hf : F.fn 74) (hro : F.round = none) (hn : 1 ≤ n) (Bs n₀ : Nat) (A : Option Addr) (m cap : Nat) (v0 v1 : Nat → Value) (hm : m ≤ 1099511627776)
    (w : World) (hBn : Bs < n₀) (hn₀ : n₀ ≤ w.heap.size) (hBs : w.cell? ⟨Bs, 0, none⟩ = some (.slice A m cap)) (hc : ∀ x, x < m → ∃ ad : Addr, A = some ad ∧ ad.block < n₀ ∧ w.cell? (ad.add (x * 2)) = some (v0 x) ∧ w.cell? ⟨(ad.add (x * 2)).block, (ad.add (x * 2)).off + 1, none⟩ = some (v1 x)) :
    SeqStopsK F n Try.prog 74 #[.pointer (some ⟨Bs, 0, none⟩)] (fun x : Nat => #[Value.int .i64 (x : Int), .agg #[v0 x, v1 x]]) (Below n₀) (fun ys => ys = bk m m) (fun pre => ∃ k, k ≤ m ∧ pre = bk m k) m w := fun l J Jx W hW _ _ hY h0 =>
  back1_in F n hf hro hn l Bs n₀ A m cap v0 v1 hm J Jx hY W hBn ((hW.cell (p := ⟨Bs, 0, none⟩) (by show Bs < w.heap.size; omega)).trans hBs) (fun x hx => by
    obtain ⟨ad, e, hb, h1, h2⟩ := hc x hx
    exact ⟨ad, e, hb, (hW.cell (by rw [blk_add]; omega)).trans h1, (hW.cell (by show (ad.add (x * 2)).block < _; rw [blk_add]; omega)).trans h2⟩) h0
set_option maxHeartbeats 1000000 in
theorem back_in (F : Fence) (n : Nat) (hf : F.fn 57) (hro : F.round = none) (A : Option Addr) (m cap : Nat) (w : World) :
    CallsIn F n Try.prog 57 #[.slice A m cap] w fun e w' => e = .returned (.func (.func 74) #[] #[.pointer (some ⟨w.heap.size, 0, none⟩)]) ∧ w' = w.alloc (.cells #[.slice A m cap] 26) := by
  refine callsIn_of_wp Try.func57 rfl hf ?_ hro
  simp only [Try.ntmps57, List.size_toArray, List.length_cons, List.length_nil, Nat.reduceAdd, Nat.reduceSub, Array.replicate_succ, Array.replicate_zero, List.push_toArray, List.append_toArray, List.nil_append, List.cons_append]
  gi_wp2
  go_ret
  exact ⟨rfl, rfl⟩
end Go.Proofs.Ytiiphlfgdkjjiaa.Q
