/- The page's example of disk; no condition. -/
import Derived.Lib.SlBytesConst
import Derived.Lib.SmallJoins
import Derived.Test.YtiiphlfgdkjjiaaZTellsDGet
import Derived.Test.YtiiphlfgdkjjiaaZTellsDNew
import Derived.Test.YtiiphlfgdkjjiaaZTellsQ0
namespace Go.Proofs.Ytiiphlfgdkjjiaa.Q
open Go.RowKit Go.Proofs.YtiiphlfgdkjjiaaW.PrintWords Go.Proofs.YtiiphlfgdkjjiaaW.PrintLast Go.Proofs.YtiiphlfgdkjjiaaW.PrintMore
set_option linter.unusedVariables false
set_option linter.unusedSimpArgs false

theorem C_of_block {w : World} {g : Nat} {t : TypeId} {fr : Nat × Nat} (l : List Int) (hl : l.length ≤ 9223372036854775807) (h : w.heap[g]? = some (.cells (l.map (Value.int .u8)).toArray t fr)) : Kd.C (Kd.int .u8) w (some ⟨g, 0, none⟩) l.length l := by
  refine Kd.C_of_reads (d := (0 : Int)) ⟨rfl, hl, fun _ => ⟨_, rfl, fun j hj => ?_⟩⟩
  rw [add_plain, cell_of_row w g j _ _ _ h]
  simp [hj]
end Go.Proofs.Ytiiphlfgdkjjiaa.Q
