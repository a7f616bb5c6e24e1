/- Append: what it answers, all in memory of its own; no condition. -/
import Derived.Test.YteplhacanofeoaaAdd
import Derived.Test.YteplhacanofeoaaQ2
namespace Go.Proofs.Yteplhacanofeoaa.Q
open Go.RowKit Go.Proofs.YteplhacanofeoaaW.PrintWords Go.Proofs.YteplhacanofeoaaW.PrintLast Go.Proofs.YteplhacanofeoaaW.PrintMore
set_option linter.unusedVariables false
set_option linter.unusedSimpArgs false

def raftlog_Append.f (k : Nat) (b bt : Int) (xs : List S28) (t : Int) (d : List Int) : Option (Int × Int × (List S28) × Int) :=
  (raftlog_Check.f k b bt xs).bind fun c => if c = 0 then (raftlog_clone.f xs).bind fun ys => (log_add.f b bt ys t d).bind fun p => if p.1 = 0 then some (b, bt, p.2, 0) else some (0, 0, [], p.1) else some (0, 0, [], c)
theorem raftlog_Append.mono : ∀ a0 a1 a2 a3 a4 k, LeO (raftlog_Append.f k a0 a1 a2 a3 a4) (raftlog_Append.f (k + 1) a0 a1 a2 a3 a4) := by
  intro a0 a1 a2 a3 a4 k
  unfold raftlog_Append.f
  exact LeO.bind (raftlog_Check.mono _ _ _ _) (fun _ => LeO.refl _)
theorem put3 {w : World} {g : Nat} {t : TypeId} {a b c x y z : Value} (h : w.heap[g]? = some (.cells #[a, b, c] t (0, 0))) : (((w.setCell ⟨g, 0, none⟩ x).setCell ⟨g, 1, none⟩ y).setCell ⟨g, 2, none⟩ z).heap[g]? = some (.cells #[x, y, z] t (0, 0)) :=
  blk_put (blk_put (blk_put h 0 x rfl) 1 y rfl) 2 z rfl
theorem below3 {B : Nat} {w0 w : World} {g : Nat} (h : Below B w0 w) (hg : B ≤ g) (x y z : Value) : Below B w0 (((w.setCell ⟨g, 0, none⟩ x).setCell ⟨g, 1, none⟩ y).setCell ⟨g, 2, none⟩ z) :=
  ((h.setCell (p := ⟨g, 0, none⟩) hg x).setCell (p := ⟨g, 1, none⟩) hg y).setCell (p := ⟨g, 2, none⟩) hg z
theorem S_set3 {α : Type} {d : Kd α} {e base g : Nat} {w : World} {v : Value} {xs : List α} {t : TypeId} {a b c : Value} (h : Kd.S d e w base (fun _ => True) v xs) (hb : w.heap[g]? = some (.cells #[a, b, c] t (0, 0))) (ht : ∀ q, q ∈ e :: d.E → q ≠ t) (x y z : Value) : Kd.S d e (((w.setCell ⟨g, 0, none⟩ x).setCell ⟨g, 1, none⟩ y).setCell ⟨g, 2, none⟩ z) base (fun _ => True) v xs :=
  Kd.S_mono (Kd.S_set (Kd.S_mono (Kd.S_set (Kd.S_mono (Kd.S_set h hb ht 0 x) (fun _ _ => trivial)) (blk_put hb 0 x rfl) ht 1 y) (fun _ _ => trivial)) (blk_put (blk_put hb 0 x rfl) 1 y rfl) ht 2 z) (fun _ _ => trivial)
theorem clone_some {xs ys : List S28} (h : raftlog_clone.f xs = some ys) : ys = xs := by
  unfold raftlog_clone.f at h
  split at h
  · exact (Option.some.inj h).symm
  · exact absurd h (by simp)

set_option maxHeartbeats 4000000 in
set_option maxRecDepth 100000 in
theorem raftlog_Append.calls (k : Nat) (a0_0 : Int) (a0_1 : Int) (A0_2 : Option Addr) (c0_2 : Nat) (l0_2 : List (S28)) (a1_0 : Int) (A1_1 : Option Addr) (c1_1 : Nat) (l1_1 : List Int) (r1 : Int) (r2 : Int) (r3 : List (S28)) (r4 : Int) (w : World) (hr0_2 : Kd.C k28 w A0_2 l0_2.length l0_2) (hc0_2 : l0_2.length ≤ c0_2) (hr1_1 : Kd.C (Kd.int .u8) w A1_1 l1_1.length l1_1) (hc1_1 : l1_1.length ≤ c1_1) (h : raftlog_Append.f k a0_0 a0_1 l0_2 a1_0 l1_1 = some (r1, r2, r3, r4)) :
    Calls Try.prog 13 #[.agg #[.int .i64 a0_0, .int .i64 a0_1, .slice A0_2 l0_2.length c0_2], .agg #[.int .i64 a1_0, .slice A1_1 l1_1.length c1_1]] w fun e w' => ∃ v2_ : Value, e = .returned (.tuple #[.agg #[.int .i64 r1, .int .i64 r2, v2_], .int .i64 r4]) ∧ Kd.S k28 28 w' w.heap.size (fun _ => True) v2_ r3 ∧ Below w.heap.size w w' := by
  have hu30 := Try.underlying30
  have hu28 := Try.underlying28
  have HR0 := Aside0.mk hr0_2
  have HC0 := Aside0.mk hc0_2
  have HR1 := Aside0.mk hr1_1
  have HC1 := Aside0.mk hc1_1
  clear hr0_2 hc0_2 hr1_1 hc1_1
  unfold raftlog_Append.f at h
  replace h := Option.bind_eq_some_iff.mp h
  obtain ⟨t0, ht0, h⟩ := h
  have HT0 := Aside0.mk ht0
  have H := Aside0.mk h
  clear ht0 h
  go_enter Try.func13, Try.ntmps13
  go_wp2_with (first
    | ((with_reducible refine gate_dst (N := 2) rfl ?_); refine box_event ?hg (N := 2) ?hd (cs := #[.int .i64 a0_0, .int .i64 a0_1, .slice A0_2 l0_2.length c0_2]) (t := 30) ?hr ?_; (case hd => rfl); (case hg => rfl); (case hr => first | (go_simp; done) | (go_simp; rfl)); intro gl hgl w1 hbox hb; have HB := Aside0.mk hb; have BKL := Aside0.mk hbox; have GL := Aside0.mk hgl; clear hb hbox hgl)
    | ((with_reducible refine gate_dst (N := 3) rfl ?_); refine box_event ?hg (N := 3) ?hd (cs := #[.int .i64 a1_0, .slice A1_1 l1_1.length c1_1]) (t := 28) ?hr ?_; (case hd => rfl); (case hg => rfl); (case hr => first | (go_simp; done) | (go_simp; rfl)); intro ge hge w2 hbox hb; have GE := Aside0.mk (by have := HB.out.size; omega : w.heap.size ≤ ge); have NLE := Aside0.mk (by have := blk_lt BKL.out; omega : gl ≠ ge); replace BKL := Aside0.mk (blk_below BKL.out hb); replace HB := Aside0.mk (below_step HB.out hb); have BKE := Aside0.mk hbox; clear hb hbox hge)
    | ((with_reducible refine gate_dst (N := 4) rfl ?_); refine box_event ?hg (N := 4) ?hd (cs := #[.int .i64 0, .int .i64 0, .slice none 0 0]) (t := 30) ?hr ?_; (case hd => rfl); (case hg => rfl); (case hr => first | (go_simp; done) | (go_simp; rfl)); intro gr hgr w3 hbox hb; have GR := Aside0.mk (by have := HB.out.size; omega : w.heap.size ≤ gr); have NLR := Aside0.mk (by have := blk_lt BKL.out; omega : gl ≠ gr); have NER := Aside0.mk (by have := blk_lt BKE.out; omega : ge ≠ gr); replace BKL := Aside0.mk (blk_below BKL.out hb); replace BKE := Aside0.mk (blk_below BKE.out hb); replace HB := Aside0.mk (below_step HB.out hb); have BKR := Aside0.mk hbox; clear hb hbox hgr; have hz0 := (blk_cell BKL.out 0).trans rfl; have hz1 := (blk_cell BKL.out 1).trans rfl; have hz2 := (blk_cell BKL.out 2).trans rfl))
  refine (raftlog_Check.calls k a0_0 a0_1 _ _ l0_2 t0 _ (Kd.C_below HR0.out HB.out) HC0.out HT0.out).mono ?_
  rintro e w4 ⟨rfl, hb⟩
  clear hz0 hz1 hz2
  replace BKL := Aside0.mk (blk_below BKL.out hb)
  replace BKE := Aside0.mk (blk_below BKE.out hb)
  replace BKR := Aside0.mk (blk_below BKR.out hb)
  replace HB := Aside0.mk (below_step HB.out hb)
  clear hb
  have h := H.out
  clear H
  by_cases c1 : t0 = 0
  · rw [if_pos c1] at h
    have c1b : (t0 != 0) = false := by simp [c1]
    obtain ⟨ys, hys, h⟩ := Option.bind_eq_some_iff.mp h
    obtain ⟨⟨p, zs⟩, hp, h⟩ := Option.bind_eq_some_iff.mp h
    have HY := Aside0.mk hys
    have HP := Aside0.mk hp
    have H := Aside0.mk h
    clear hys hp h c1
    have hz2 : w4.cell? ⟨gl, 2, none⟩ = some (.slice A0_2 l0_2.length c0_2) := (blk_cell BKL.out 2).trans rfl
    go_wp2_with fail
    refine (raftlog_clone.calls _ _ l0_2 ys _ (Kd.C_below HR0.out HB.out) HC0.out HY.out).mono ?_
    rintro e w5 ⟨v5, rfl, hs, hb⟩
    obtain ⟨A5, c5, eo⟩ := Kd.S_slice hs
    subst eo
    have NR := Aside0.mk (fun k hk => by have h1 := Kd.S_base hs k hk; have h2 := blk_lt BKR.out; omega : ∀ k, (Value.slice A5 ys.length c5).ownBlock = some k → gr < k)
    have HS := Aside0.mk (Kd.S_lower hs HB.out.size)
    clear hs hz2
    replace BKL := Aside0.mk (blk_below BKL.out hb)
    replace BKE := Aside0.mk (blk_below BKE.out hb)
    replace BKR := Aside0.mk (blk_below BKR.out hb)
    replace HB := Aside0.mk (below_step HB.out hb)
    clear hb
    have hz2 : w5.cell? ⟨gl, 2, none⟩ = some (.slice A0_2 l0_2.length c0_2) := (blk_cell BKL.out 2).trans rfl
    have hf2 := blk_frozen BKL.out 2
    have hz3 : w5.cell? ⟨ge, 0, none⟩ = some (.int .i64 a1_0) := (blk_cell BKE.out 0).trans rfl
    have hz4 : w5.cell? ⟨ge, 1, none⟩ = some (.slice A1_1 l1_1.length c1_1) := (blk_cell BKE.out 1).trans rfl
    have hn1 := NLE.out
    have hn2 := NLE.out.symm
    go_wp2_with fail
    have hgl : w.heap.size ≤ gl := by rw [GL.out]; exact Nat.le_refl _
    have HBS := Aside0.mk (HB.out.setCell (p := ⟨gl, 2, none⟩) hgl (.slice A5 ys.length c5))
    have BKL5 := Aside0.mk (blk_put BKL.out 2 (.slice A5 ys.length c5) rfl)
    have BKR5 := Aside0.mk (blk_far BKR.out (p := ⟨gl, 2, none⟩) NLR.out.symm (.slice A5 ys.length c5))
    refine (log_add.calls a0_0 a0_1 a1_0 p ys zs l1_1 gl w.heap.size A5 c5 c5 A1_1 c1_1 _ hgl BKL5.out (Kd.S_mono (Kd.S_set HS.out BKL.out (by decide) 2 _) (fun _ _ => trivial)) (.inl rfl) HBS.out.size (Kd.C_below HR1.out HBS.out) HC1.out HP.out).mono ?_
    rintro e w6 ⟨rfl, hk, hb6, hok⟩
    have HOK := Aside0.mk hok
    replace BKR := Aside0.mk ((hk.2 gr (blk_lt BKR5.out) NLR.out.symm (fun e_ => by have := NR.out gr e_.symm; omega)).trans BKR5.out)
    replace HB := Aside0.mk (HBS.out.trans hb6)
    clear BKL5 BKR5 HBS hb6 hok hk hz2 hz3 hz4 hf2 hn1 hn2 BKE
    have h := H.out
    clear H
    have hr0 : w6.cell? ⟨gr, 0, none⟩ = some (.int .i64 0) := (blk_cell BKR.out 0).trans rfl
    have hr1 : w6.cell? ⟨gr, 1, none⟩ = some (.int .i64 0) := (blk_cell BKR.out 1).trans rfl
    have hr2 : w6.cell? ⟨gr, 2, none⟩ = some (.slice none 0 0) := (blk_cell BKR.out 2).trans rfl
    have hf0 := blk_frozen BKR.out 0
    have hf1 := blk_frozen BKR.out 1
    have hf2 := blk_frozen BKR.out 2
    by_cases c2 : p = 0
    · rw [if_pos c2] at h
      have c2b : (p != 0) = false := by simp [c2]
      obtain ⟨rfl, rfl, rfl, rfl⟩ : a0_0 = r1 ∧ a0_1 = r2 ∧ zs = r3 ∧ 0 = r4 := by simpa using h
      obtain ⟨v6, hbl, hs6⟩ := HOK.out c2
      replace BKL := Aside0.mk hbl
      obtain ⟨A6, c6, eo⟩ := Kd.S_slice hs6
      subst eo
      replace HS := Aside0.mk hs6
      clear hbl hs6
      have hz0 : w6.cell? ⟨gl, 0, none⟩ = some (.int .i64 a0_0) := (blk_cell BKL.out 0).trans rfl
      have hz1 : w6.cell? ⟨gl, 1, none⟩ = some (.int .i64 a0_1) := (blk_cell BKL.out 1).trans rfl
      have hz2 : w6.cell? ⟨gl, 2, none⟩ = some (.slice A6 zs.length c6) := (blk_cell BKL.out 2).trans rfl
      go_wp2_with fail
      refine bodyPost_ret (results_ct rfl _ _ gr 30 #[.int .i64 a0_0, .int .i64 a0_1, .slice A6 zs.length c6] (0, 0) _ rfl (put3 BKR.out) Try.underlying30 rfl (by kernel_rfl)) rfl ?_
      exact ⟨_, rfl, S_set3 HS.out BKR.out (by decide) _ _ _, below3 HB.out GR.out _ _ _⟩
    · rw [if_neg c2] at h
      have c2b : (p != 0) = true := by simp [c2]
      obtain ⟨rfl, rfl, rfl, rfl⟩ : 0 = r1 ∧ 0 = r2 ∧ [] = r3 ∧ p = r4 := by simpa using h
      go_wp2_with fail
      refine bodyPost_ret (results_ct rfl _ _ gr 30 #[.int .i64 0, .int .i64 0, .slice none 0 0] (0, 0) _ rfl (put3 BKR.out) Try.underlying30 rfl (by kernel_rfl)) rfl ?_
      exact ⟨_, rfl, Kd.S_nil _ _ _ _ _, below3 HB.out GR.out _ _ _⟩
  · rw [if_neg c1] at h
    have c1b : (t0 != 0) = true := by simp [c1]
    obtain ⟨rfl, rfl, rfl, rfl⟩ : 0 = r1 ∧ 0 = r2 ∧ [] = r3 ∧ t0 = r4 := by simpa using h
    have hr0 : w4.cell? ⟨gr, 0, none⟩ = some (.int .i64 0) := (blk_cell BKR.out 0).trans rfl
    have hr1 : w4.cell? ⟨gr, 1, none⟩ = some (.int .i64 0) := (blk_cell BKR.out 1).trans rfl
    have hr2 : w4.cell? ⟨gr, 2, none⟩ = some (.slice none 0 0) := (blk_cell BKR.out 2).trans rfl
    have hf0 := blk_frozen BKR.out 0
    have hf1 := blk_frozen BKR.out 1
    have hf2 := blk_frozen BKR.out 2
    go_wp2_with fail
    refine bodyPost_ret (results_ct rfl _ _ gr 30 #[.int .i64 0, .int .i64 0, .slice none 0 0] (0, 0) _ rfl (put3 BKR.out) Try.underlying30 rfl (by kernel_rfl)) rfl ?_
    exact ⟨_, rfl, Kd.S_nil _ _ _ _ _, below3 HB.out GR.out _ _ _⟩
end Go.Proofs.Yteplhacanofeoaa.Q
