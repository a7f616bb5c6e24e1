/- The page's example of chunks; no condition. -/
import Derived.Lib.SlBytesConst
import Derived.Lib.SmallJoins
import Derived.Laws.BytesArg
import Derived.Test.YtabkdakikfhgmaaZTrueCut
import Derived.Test.YtabkdakikfhgmaaZTrueQ16
namespace Go.Proofs.Ytabkdakikfhgmaa.Q
open Go.RowKit Go.Proofs.YtabkdakikfhgmaaW.PrintWords Go.Proofs.YtabkdakikfhgmaaW.PrintLast Go.Proofs.YtabkdakikfhgmaaW.PrintMore
open Go.Proofs.Ytabkdakikfhgmaa.CrcP
set_option linter.unusedVariables false
set_option linter.unusedSimpArgs false

def transeptlaw18_alive.f : Option Bool := some true
def exD : List Int := [97, 98, 99, 100, 101]
def exL (s : Int) : List S41 := [⟨5, s, 0, [97, 98]⟩, ⟨5, s, 2, [99, 100]⟩, ⟨5, s, 4, [101]⟩]
theorem ex_acc (s : Int) : accR exD 2 s (us 2 (cnt 5 2)) = exL s := by kernel_rfl
theorem ex_cut : ∃ s, chunks_Cut.f exD 2 = some (exL s, 0) := by
  refine ⟨((csum (nats exD) : Nat) : Int), ?_⟩
  rw [← ex_acc]
  rfl

set_option maxHeartbeats 4000000 in
set_option maxRecDepth 100000 in
theorem transeptlaw18_alive.calls (r : Bool) (w : World) (h : transeptlaw18_alive.f = some r) :
    Calls Try.prog 15 #[] w fun e w' => e = .returned (.bool r) ∧ Below w.heap.size w w' := by
  obtain rfl := Option.some.inj h
  clear h
  obtain ⟨s, hs⟩ := ex_cut
  have hu := Try.underlying41
  go_enter Try.func15, Try.ntmps15
  have kc := Go.Joins.run_convert_bytes_const_at (P := Try.prog) w 22 5 #[.int .u8 97, .int .u8 98, .int .u8 99, .int .u8 100, .int .u8 101] 5 5 w.heap.size rfl Try.underlying22 Try.underlying5
  go_wp2_with fail
  have hc := C_of_block (w := w.alloc (.cells #[.int .u8 97, .int .u8 98, .int .u8 99, .int .u8 100, .int .u8 101] 5 (5, 6))) (g := w.heap.size) exD (by decide) (blk_new _ _)
  have hb0 := below_alloc (Below.refl w.heap.size w) (.cells #[.int .u8 97, .int .u8 98, .int .u8 99, .int .u8 100, .int .u8 101] 5 (5, 6))
  refine (chunks_Cut.calls _ 5 exD 2 (exL s) 0 _ hc (by decide) hs).mono ?_
  rintro e w1 ⟨v, rfl, hv, hb⟩
  obtain ⟨g, d1, e1, x1, x2, x3⟩ := Kd.S_form hv (by show 0 < 3; decide)
  replace e1 : v = .slice (some ⟨g, 0, none⟩) 3 d1 := e1
  subst e1
  clear x1 x2 x3
  have HB := Aside0.mk (below_step hb0 hb)
  go_wp2_with fail
  refine (transeptlaw18_num.calls 0 0 _ rfl).mono ?_
  rintro e w2 ⟨rfl, ⟨⟨m1, rfl⟩⟩⟩
  obtain ⟨cs, x4, hM, hcs⟩ := Kd.S_get hv z41 (2 : Int) (by decide) (by decide)
  obtain ⟨v3, e3, hR⟩ := k41_openM hM
  subst e3
  obtain ⟨g3, d3, e3, x5, x6, x7⟩ := Kd.R_form hR (by show 0 < 1; decide)
  replace e3 : v3 = .slice (some ⟨g3, 0, none⟩) 1 d3 := e3
  subst e3
  obtain ⟨x8, x9, hC3⟩ := Kd.R_reads' hR
  obtain ⟨ad3, cs3, e4, x10, hK, hcc⟩ := Kd.C_get hC3 (0 : Int) 0 (by decide) (by show (0 : Int) < 1; decide)
  obtain rfl : ⟨g3, 0, none⟩ = ad3 := by simpa using e4
  have hK' : cs3 = [Value.int .u8 101] := hK
  subst hK'
  have h4 : w1.cell? ⟨g3, 0, none⟩ = some (.int .u8 101) := hcc 0 _ rfl
  have g2 : (w1.drewN m1).cell? ⟨g, 10, none⟩ = some (.int .i64 4) := hcs 2 _ rfl
  have g5 : (w1.drewN m1).cell? ⟨g, 11, none⟩ = some (.slice (some ⟨g3, 0, none⟩) 1 d3) := hcs 3 _ rfl
  have g4 := run_convert_bytes_arg (P := Try.prog) (w1.drewN m1) 22 5 Try.underlying22 Try.underlying5 g3 0 1 d3 [101] rfl (fun i hi => by obtain rfl : i = 0 := (by omega); exact h4) 9 Try.underlying9
  rw [show strOfNums [101] = (⟨#[101]⟩ : ByteArray) from rfl] at g4
  clear h4 hcc hcs e4 x4 x5 x6 x7 x8 x9 x10 hK hM hR hC3 hv
  go_wp2_with fail
  go_ret
  exact ⟨rfl, HB.out.trans (pw_below_drewN (Below.refl _ _) _)⟩
end Go.Proofs.Ytabkdakikfhgmaa.Q
