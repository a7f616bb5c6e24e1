/- CrcGoesOn is true for every two texts of bulk at most 1048576: the sum of the two, one behind the other, is the first one's gone on with the second, and the two sums put together. -/
import Derived.Test.YtabkdakikfhgmaaStmCrcGoesOnU
import Derived.Test.YtabkdakikfhgmaaOcts
namespace Go.Proofs.Ytabkdakikfhgmaa.Pure
open Go.RowKit Go.Proofs.Ytabkdakikfhgmaa.Q Go.Proofs.Ytabkdakikfhgmaa.Read Go.Proofs.YtabkdakikfhgmaaW.PrintWords Go.Proofs.YtabkdakikfhgmaaW.PrintLast Go.Proofs.YtabkdakikfhgmaaW.PrintMore
open Go.Proofs.Ytabkdakikfhgmaa.CrcP

theorem goes_alive : transeptlaw02_alive.f = some true := rfl
theorem bulk_len (l : List Int) : bulkL (fun _ => 1) l = l.length + 1 := by
  unfold bulkL
  congr 1
  induction l with
  | nil => rfl
  | cons x l ih => simp only [List.map_cons, List.sum_cons, List.length_cons, ih]; omega

theorem CrcGoesOnU : Stm.crcGoesOnUpto.Pure := by
  intro a b fa fb hb
  rw [bulk_len, bulk_len] at hb
  have oa := octs_of_wf fa.2.2
  have ob := octs_of_wf fb.2.2
  unfold transeptlaw02_CrcGoesOn.f
  rw [goes_alive]
  simp only [Option.bind_some, if_true]
  have hcb : transeptplain_CopyBytes.f a = some a := by
    unfold transeptplain_CopyBytes.f
    rw [if_pos (by simp; omega)]
    simp
  rw [hcb]
  simp only [Option.bind_some]
  rw [if_pos (by omega), sum_f oa, Option.bind_some, sum_f ob, Option.bind_some]
  have hj : crc_Join.f ((csum (nats a) : Nat) : Int) ((csum (nats b) : Nat) : Int) (b.length : Int) = some (((csum (nats (a ++ b)) : Nat) : Int), 0) := by
    unfold crc_Join.f
    have h1 := csum_lt oa
    have h2 := csum_lt ob
    rw [if_pos ⟨by omega, by omega, by omega, by omega⟩, if_neg (by omega)]
    simp only [Int.toNat_natCast]
    rw [nats_append, csum_join, nats_length]
  rw [hj, Option.bind_some, if_neg (by omega), sum_f (octs_append oa ob), Option.bind_some, Option.bind_some, ext_f (csum_lt oa) ob, Option.bind_some]
  rw [if_pos (by rw [nats_append, csum_append])]
  simp [transeptlaw02_num.f]
end Go.Proofs.Ytabkdakikfhgmaa.Pure
