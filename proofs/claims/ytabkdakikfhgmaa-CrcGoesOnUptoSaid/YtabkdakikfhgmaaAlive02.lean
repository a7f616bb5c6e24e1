/- The page's example of crc: the sum of "123456789" is 0xe3069283, that of nothing is 0; no condition. -/
import Derived.Test.YtabkdakikfhgmaaCrcA
import Derived.Lib.SlBytesConst
namespace Go.Proofs.Ytabkdakikfhgmaa.Q
open Go.RowKit Go.Proofs.YtabkdakikfhgmaaW.PrintWords Go.Proofs.YtabkdakikfhgmaaW.PrintLast Go.Proofs.YtabkdakikfhgmaaW.PrintMore
open Go.Proofs.Ytabkdakikfhgmaa.CrcP

def transeptlaw02_alive.f : Option Bool := some true
theorem csum_nine : csum (nats [49, 50, 51, 52, 53, 54, 55, 56, 57]) = 3808858755 := by decide +kernel
theorem csum_nil : csum (nats []) = 0 := by decide +kernel

set_option maxHeartbeats 1000000 in
set_option maxRecDepth 100000 in
theorem transeptlaw02_alive.calls (r : Bool) (w : World) (h : transeptlaw02_alive.f = some r) :
    Calls Try.prog 9 #[] w fun e w' => e = .returned (.bool r) ∧ Below w.heap.size w w' := by
  obtain rfl := Option.some.inj h
  clear h
  have kc := fun (w : World) (C : Array Value) (n c : Nat) => Lib.run_convert_bytes_const (P := Try.prog) w 22 5 C n c Try.underlying22 Try.underlying5
  go_enter Try.func9, Try.ntmps9
  go_wp2_with fail
  have hc := C_of_block (w := (w.alloc (.cells #[.int .u8 49, .int .u8 50, .int .u8 51, .int .u8 52, .int .u8 53, .int .u8 54, .int .u8 55, .int .u8 56, .int .u8 57] 5 (9, 10)))) (g := w.heap.size) [49, 50, 51, 52, 53, 54, 55, 56, 57] (by decide) (blk_new _ _)
  refine (sum_any _ 9 [49, 50, 51, 52, 53, 54, 55, 56, 57] _ hc (by decide)).mono ?_
  rintro e w1 ⟨rfl, hB⟩
  rw [csum_nine]
  have hb : Below w.heap.size w w1 := (below_alloc (Below.refl _ _) _).trans (hB.mono (by simp))
  clear kc hc hB
  go_wp2_with fail
  refine (sum_any none 0 [] _ (Kd.C_nil _ _) (by decide)).mono ?_
  rintro e w2 ⟨rfl, hB⟩
  rw [csum_nil]
  have hb2 : Below w.heap.size w w2 := hb.trans (hB.mono hb.size)
  go_wp2_with fail
  go_ret
  exact ⟨rfl, hb2⟩
end Go.Proofs.Ytabkdakikfhgmaa.Q
