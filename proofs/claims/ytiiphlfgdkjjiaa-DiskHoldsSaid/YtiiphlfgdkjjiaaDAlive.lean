/- The page's example of disk; no condition. -/
import Derived.Test.YtiiphlfgdkjjiaaDGet
import Derived.Test.YtiiphlfgdkjjiaaDNew
import Derived.Test.YtiiphlfgdkjjiaaQ15
import Derived.Lib.SlBytesConst
import Derived.Lib.SmallJoins
namespace Go.Proofs.Ytiiphlfgdkjjiaa.Q
open Go.RowKit Go.Proofs.YtiiphlfgdkjjiaaW.PrintWords Go.Proofs.YtiiphlfgdkjjiaaW.PrintLast Go.Proofs.YtiiphlfgdkjjiaaW.PrintMore
set_option linter.unusedVariables false
set_option linter.unusedSimpArgs false

def transeptlaw04_alive.f : Option Bool := some true
theorem C_of_block {w : World} {g : Nat} {t : TypeId} {fr : Nat × Nat} (l : List Int) (hl : l.length ≤ 9223372036854775807) (h : w.heap[g]? = some (.cells (l.map (Value.int .u8)).toArray t fr)) : Kd.C (Kd.int .u8) w (some ⟨g, 0, none⟩) l.length l := by
  refine Kd.C_of_reads (d := (0 : Int)) ⟨rfl, hl, fun _ => ⟨_, rfl, fun j hj => ?_⟩⟩
  rw [add_plain, cell_of_row w g j _ _ _ h]
  simp [hj]
def exS : List (List Int) := [zeros64, zeros64]
def exP : List Int := 97 :: 98 :: List.replicate 62 0
theorem ex_put : disk_Put.f 20 exS [] 1 [97, 98] = some (exS, [⟨1, exP⟩], 0) := by kernel_rfl
theorem ex_get : disk_Get.f 20 exS [⟨1, exP⟩] 1 = some (exP, 0) := by kernel_rfl
theorem ex_crash : disk_Crash.f 20 exS [⟨1, exP⟩] [] 0 0 = some (exS, [], 0) := by kernel_rfl
theorem ex_got : disk_Get.f 20 exS [] 1 = some (zeros64, 0) := by kernel_rfl
theorem ex_new : disk_New.f 2 = some (exS, [], 0) := by kernel_rfl
theorem oct_at {A : Option Addr} {n c : Nat} {xs : List Int} {e base : Nat} {w W : World} {ok : Nat → Prop} {x : Int} (h : (Kd.int .u8).R e w base ok (.slice A n c) xs) (hx : xs[0]? = some x) (hb : Below w.heap.size w W) : ∃ ad, A = some ad ∧ W.cell? ad = some (.int .u8 x) := by
  obtain ⟨hn, _, hC⟩ := Kd.R_reads' h
  have hl : 0 < xs.length := (List.getElem?_eq_some_iff.1 hx).1
  obtain ⟨ad, cs, e, _, hK, hcc⟩ := Kd.C_get hC (0 : Int) 0 (by omega) (by omega)
  have hK' : cs = [Value.int .u8 (xs.getD (0 : Int).toNat 0)] := hK
  subst hK'
  have h1 := hcc 0 _ rfl
  refine ⟨ad, e, ?_⟩
  rw [show (0 : Int).toNat = 0 from rfl, List.getD_eq_getElem?_getD, hx] at h1
  have h2 : w.cell? (ad.add 0) = some (.int .u8 x) := h1
  rw [show ad.add 0 = ad from by simp [Addr.add]] at h2
  exact (hb.cell (World.block_lt_of_cell? _ _ h2)).trans h2

set_option maxHeartbeats 4000000 in
set_option maxRecDepth 100000 in
theorem transeptlaw04_alive.calls (r : Bool) (w : World) (h : transeptlaw04_alive.f = some r) :
    Calls Try.prog 26 #[] w fun e w' => e = .returned (.bool r) ∧ Below w.heap.size w w' := by
  obtain rfl := Option.some.inj h
  clear h
  have hu := Try.underlying28
  go_enter Try.func26, Try.ntmps26
  go_wp2_with fail
  refine (disk_New.calls 2 exS [] 0 w ex_new).mono ?_
  rintro e w1 ⟨v0, v1, rfl, hs0, hs1, hb⟩
  obtain ⟨a0, d0, e0⟩ := Kd.S_slice hs0
  obtain ⟨a1, d1, e1⟩ := Kd.S_slice hs1
  replace e0 : v0 = .slice a0 2 d0 := e0
  replace e1 : v1 = .slice a1 0 d1 := e1
  subst e0 e1
  have HS0 := Aside0.mk hs0
  have HS1 := Aside0.mk hs1
  have HB := Aside0.mk hb
  clear hs0 hs1 hb
  have kc := Go.Joins.run_convert_bytes_const_at (P := Try.prog) (w1.alloc (.cells #[.slice a0 2 d0, .slice a1 0 d1] 28)) 50 5 #[.int .u8 97, .int .u8 98] 2 2 (w1.heap.size + 1) (by simp) Try.underlying50 Try.underlying5
  go_wp2_with fail
  have BK1 := Aside0.mk (blk_alloc (blk_new w1 (.cells #[.slice a0 2 d0, .slice a1 0 d1] 28)) (.cells #[.int .u8 97, .int .u8 98] 5 (2, 3)))
  have HB2 := Aside0.mk (below_alloc (below_alloc HB.out (.cells #[.slice a0 2 d0, .slice a1 0 d1] 28)) (.cells #[.int .u8 97, .int .u8 98] 5 (2, 3)))
  have hc := C_of_block (w := (w1.alloc (.cells #[.slice a0 2 d0, .slice a1 0 d1] 28)).alloc (.cells #[.int .u8 97, .int .u8 98] 5 (2, 3))) (g := w1.heap.size + 1) [97, 98] (by decide) (by have := blk_new (w1.alloc (.cells #[.slice a0 2 d0, .slice a1 0 d1] 28)) (.cells #[.int .u8 97, .int .u8 98] 5 (2, 3)); rw [World.size_alloc] at this; exact this)
  refine (disk_Put.calls 20 a0 d0 exS a1 d1 [] 1 _ 2 [97, 98] exS [⟨1, exP⟩] 0 _ (Kd.C_alloc (Kd.C_alloc (Kd.S_reads' HS0.out).2.2 _) _) (Kd.S_reads' HS0.out).2.1 (Kd.C_alloc (Kd.C_alloc (Kd.S_reads' HS1.out).2.2 _) _) (Kd.S_reads' HS1.out).2.1 hc (by decide) ex_put).mono ?_
  rintro e w3 ⟨v0, v1, rfl, hs0, hs1, hb⟩
  obtain ⟨b0, f0, e0⟩ := Kd.S_slice hs0
  obtain ⟨b1, f1, e1⟩ := Kd.S_slice hs1
  replace e0 : v0 = .slice b0 2 f0 := e0
  replace e1 : v1 = .slice b1 1 f1 := e1
  subst e0 e1
  replace BK1 := Aside0.mk (blk_below BK1.out hb)
  have G1 := Aside0.mk HB.out.size
  replace HB := Aside0.mk (below_step HB2.out hb)
  have HP0 := Aside0.mk (Kd.S_set (Kd.S_set hs0 BK1.out (by decide) 0 (.slice b0 2 f0)) (blk_put BK1.out 0 _ rfl) (by decide) 1 (.slice b1 1 f1))
  have HP1 := Aside0.mk (Kd.S_set (Kd.S_set hs1 BK1.out (by decide) 0 (.slice b0 2 f0)) (blk_put BK1.out 0 _ rfl) (by decide) 1 (.slice b1 1 f1))
  clear kc hc HS0 HS1 HB2 hs0 hs1 hb
  have hz0 := (blk_cell BK1.out 0).trans rfl
  have hz1 := (blk_cell BK1.out 1).trans rfl
  have hf0 := blk_frozen BK1.out 0
  have hf1 := blk_frozen BK1.out 1
  go_wp2_with fail
  obtain ⟨wS, hwS⟩ : ∃ wS, wS = (w3.setCell ⟨w1.heap.size, 0, none⟩ (.slice b0 2 f0)).setCell ⟨w1.heap.size, 1, none⟩ (.slice b1 1 f1) := ⟨_, rfl⟩
  rw [← hwS] at HP0 HP1 ⊢
  replace BK1 := Aside0.mk (show wS.heap[w1.heap.size]? = some (.cells #[.slice b0 2 f0, .slice b1 1 f1] 28 (0, 0)) from by rw [hwS]; exact put2 BK1.out)
  replace HB := Aside0.mk (show Below w.heap.size w wS from by rw [hwS]; exact below2 HB.out G1.out _ _)
  clear hwS hz0 hz1 hf0 hf1
  refine (disk_Get.calls 20 b0 f0 exS b1 f1 [⟨1, exP⟩] 1 exP 0 _ (Kd.S_reads' HP0.out).2.2 (Kd.S_reads' HP0.out).2.1 (Kd.S_reads' HP1.out).2.2 (Kd.S_reads' HP1.out).2.1 ex_get).mono ?_
  rintro e w4 ⟨v2, rfl, ho, hb⟩
  obtain ⟨a2, d2, e2⟩ := Kd.R_slice ho
  replace e2 : v2 = .slice a2 64 d2 := e2
  subst e2
  have HO2 := Aside0.mk ho
  replace HP0 := Aside0.mk (Kd.S_below HP0.out hb)
  replace HP1 := Aside0.mk (Kd.S_below HP1.out hb)
  replace BK1 := Aside0.mk (blk_below BK1.out hb)
  replace HB := Aside0.mk (below_step HB.out hb)
  clear ho hb
  have hz0 := (blk_cell BK1.out 0).trans rfl
  have hz1 := (blk_cell BK1.out 1).trans rfl
  go_wp2_with fail
  refine (disk_Crash.calls 20 b0 f0 exS b1 f1 [⟨1, exP⟩] none 0 [] 0 0 exS [] 0 _ (Kd.S_reads' HP0.out).2.2 (Kd.S_reads' HP0.out).2.1 (Kd.S_reads' HP1.out).2.2 (Kd.S_reads' HP1.out).2.1 (Kd.C_nil _ _) (Nat.le_refl _) ex_crash).mono ?_
  rintro e w5 ⟨v3, v4, rfl, hs0, hs1, hb⟩
  obtain ⟨c0, g0, e0⟩ := Kd.S_slice hs0
  obtain ⟨c1, g1, e1⟩ := Kd.S_slice hs1
  replace e0 : v3 = .slice c0 2 g0 := e0
  replace e1 : v4 = .slice c1 0 g1 := e1
  subst e0 e1
  have HQ0 := Aside0.mk hs0
  have HQ1 := Aside0.mk hs1
  have HB5 := Aside0.mk hb
  replace HB := Aside0.mk (below_step HB.out hb)
  clear hs0 hs1 hb hz0 hz1
  go_wp2_with fail
  refine (disk_Get.calls 20 c0 g0 exS c1 g1 [] 1 zeros64 0 _ (Kd.C_alloc (Kd.S_reads' HQ0.out).2.2 _) (Kd.S_reads' HQ0.out).2.1 (Kd.C_alloc (Kd.S_reads' HQ1.out).2.2 _) (Kd.S_reads' HQ1.out).2.1 ex_got).mono ?_
  rintro e w6 ⟨v5, rfl, ho, hb⟩
  obtain ⟨a5, d5, e5⟩ := Kd.R_slice ho
  replace e5 : v5 = .slice a5 64 d5 := e5
  subst e5
  have HB6 := Aside0.mk (below_step (below_alloc HB5.out (.cells #[.slice c0 2 g0, .slice c1 0 g1] 28)) hb)
  have HBF := Aside0.mk (below_step (below_alloc HB.out (.cells #[.slice c0 2 g0, .slice c1 0 g1] 28)) hb)
  obtain ⟨ad2, rfl, hc2⟩ := oct_at HO2.out (x := 97) rfl HB6.out
  obtain ⟨ad5, rfl, hc5⟩ := oct_at ho (x := 0) rfl (Below.refl _ _)
  clear ho hb
  go_wp2_with fail
  refine (transeptlaw04_num.calls 0 0 _ rfl).mono ?_
  rintro e w7 ⟨rfl, ⟨⟨m1, rfl⟩⟩⟩
  go_wp2_with fail
  refine (transeptlaw04_num.calls 0 0 _ rfl).mono ?_
  rintro e w7 ⟨rfl, ⟨⟨m2, rfl⟩⟩⟩
  go_wp2_with fail
  refine (transeptlaw04_num.calls 0 0 _ rfl).mono ?_
  rintro e w7 ⟨rfl, ⟨⟨m3, rfl⟩⟩⟩
  go_wp2_with fail
  refine (transeptlaw04_num.calls 0 0 _ rfl).mono ?_
  rintro e w7 ⟨rfl, ⟨⟨m4, rfl⟩⟩⟩
  go_wp2_with fail
  refine (transeptlaw04_num.calls 0 0 _ rfl).mono ?_
  rintro e w7 ⟨rfl, ⟨⟨m5, rfl⟩⟩⟩
  have hf2 : ((((((w6.drewN m1).drewN m2).drewN m3).drewN m4).drewN m5).cell? ad2 = some (.int .u8 97)) := hc2
  have hf5 : ((((((w6.drewN m1).drewN m2).drewN m3).drewN m4).drewN m5).cell? ad5 = some (.int .u8 0)) := hc5
  go_wp2_with fail
  go_ret
  exact ⟨rfl, pw_below_drewN HBF.out _⟩
end Go.Proofs.Ytiiphlfgdkjjiaa.Q
