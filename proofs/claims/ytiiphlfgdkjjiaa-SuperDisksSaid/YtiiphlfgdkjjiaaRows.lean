/-
  No cell of these rows narrows 'for every input' (looked for: loops, veiled, ifaces, maps, wideKeys, modest, calm, conditions, laid).
  DERIVED. THE GIVEN ROWS OF THIS SEAT. 11 by the template 'for every input the law returns true; each argument reads behind the call as it read before'; 0 by the template 'total and deterministic' (their statements: YtiiphlfgdkjjiaaTotals.lean).
  GIVEN WITH THE SEED: the statements are not yours to turn. If you find one false, say at which input.
  Laid BY PROGRAM, IN A SANDBOX (cutbox-rows.mjs): the forced cells as the released guide's own fill.sh prints them over the translation e209505d7032d8cc… (all of the seat's roots in one cut). By AI agents, Wed Nov 11 2026. No macro, syntax, notation, axiom, sorry.
-/
import Derived.Test.YtiiphlfgdkjjiaaChecked
import GoSem.Claim
import GoSem.ClaimJoined
import GoSem.ClaimMapViews
import Derived.JoinedTies
import Derived.KernelRfl
namespace Go.Proofs.Ytiiphlfgdkjjiaa
/- THE CELL 'sum', in the pinned program and in every row, IS THE sha256 OF THE DUMP (.gsa) THAT YtiiphlfgdkjjiaaProg.lean LOADS. Nothing in Lean hashes anything: it is a label: what it is worth is what the hold of that sum in a sandbox is worth. -/
noncomputable def Try.pinned : Pinned := { name := "ytiiphlfgdkjjiaa", sum := "e209505d7032d8ccc020f3b884ac007982c3d1209e2c437ae4f6416a4da9c2bb", checked := Try.checked }
namespace Rows
def none {H : Type} : Left H := { results := [], args := [] }

/-- 'transeptlaw06.SuperRot': WHATEVER THE INPUT: true; the input reads as it did. -/
def superRotSpec : ChangeSpec := { name := "superRot", fn := fun _ => fun
  | [d1, d2, d3, d4, d5] => { results := [.lit (.bool true)], args := [d1, d2, d3, d4, d5] }
  | _ => none }
def superRotRow : OpenClaim := { program := "ytiiphlfgdkjjiaa", sum := "e209505d7032d8ccc020f3b884ac007982c3d1209e2c437ae4f6416a4da9c2bb", func := "transept/transeptlaw06.SuperRot", spec := "superRot", unfollowed := true, recurses := true, apart := false }
def SuperRotSaid : Prop := superRotRow.holds Try.pinned (OpenSpec.ofChange superRotSpec)

/-- ITS FALSE NEIGHBOUR: 'it returns false'. Refute it at one input. -/
def superRotWrong : ChangeSpec := { name := "superRot", fn := fun _ => fun
  | [d1, d2, d3, d4, d5] => { results := [.lit (.bool false)], args := [d1, d2, d3, d4, d5] }
  | _ => none }
def SuperRotWrongFalsely : Prop := superRotRow.holds Try.pinned (OpenSpec.ofChange superRotWrong)

/-- 'transeptlaw04.DiskCrashes': WHATEVER THE INPUT: true; the input reads as it did. -/
def diskCrashesSpec : ChangeSpec := { name := "diskCrashes", fn := fun _ => fun
  | [d1, d2, d3, d4] => { results := [.lit (.bool true)], args := [d1, d2, d3, d4] }
  | _ => none }
def diskCrashesRow : OpenClaim := { program := "ytiiphlfgdkjjiaa", sum := "e209505d7032d8ccc020f3b884ac007982c3d1209e2c437ae4f6416a4da9c2bb", func := "transept/transeptlaw04.DiskCrashes", spec := "diskCrashes", unfollowed := true, recurses := true, apart := false }
def DiskCrashesSaid : Prop := diskCrashesRow.holds Try.pinned (OpenSpec.ofChange diskCrashesSpec)

/-- ITS FALSE NEIGHBOUR: 'it returns false'. Refute it at one input. -/
def diskCrashesWrong : ChangeSpec := { name := "diskCrashes", fn := fun _ => fun
  | [d1, d2, d3, d4] => { results := [.lit (.bool false)], args := [d1, d2, d3, d4] }
  | _ => none }
def DiskCrashesWrongFalsely : Prop := diskCrashesRow.holds Try.pinned (OpenSpec.ofChange diskCrashesWrong)

/-- 'transeptlaw04.DiskOldOrNew': WHATEVER THE INPUT: true; the input reads as it did. -/
def diskOldOrNewSpec : ChangeSpec := { name := "diskOldOrNew", fn := fun _ => fun
  | [d1, d2] => { results := [.lit (.bool true)], args := [d1, d2] }
  | _ => none }
def diskOldOrNewRow : OpenClaim := { program := "ytiiphlfgdkjjiaa", sum := "e209505d7032d8ccc020f3b884ac007982c3d1209e2c437ae4f6416a4da9c2bb", func := "transept/transeptlaw04.DiskOldOrNew", spec := "diskOldOrNew", unfollowed := true, recurses := true, apart := false }
def DiskOldOrNewSaid : Prop := diskOldOrNewRow.holds Try.pinned (OpenSpec.ofChange diskOldOrNewSpec)

/-- ITS FALSE NEIGHBOUR: 'it returns false'. Refute it at one input. -/
def diskOldOrNewWrong : ChangeSpec := { name := "diskOldOrNew", fn := fun _ => fun
  | [d1, d2] => { results := [.lit (.bool false)], args := [d1, d2] }
  | _ => none }
def DiskOldOrNewWrongFalsely : Prop := diskOldOrNewRow.holds Try.pinned (OpenSpec.ofChange diskOldOrNewWrong)

/-- 'transeptlaw04.DiskOwn': WHATEVER THE INPUT: true; the input reads as it did. -/
def diskOwnSpec : ChangeSpec := { name := "diskOwn", fn := fun _ => fun
  | [d1, d2] => { results := [.lit (.bool true)], args := [d1, d2] }
  | _ => none }
def diskOwnRow : OpenClaim := { program := "ytiiphlfgdkjjiaa", sum := "e209505d7032d8ccc020f3b884ac007982c3d1209e2c437ae4f6416a4da9c2bb", func := "transept/transeptlaw04.DiskOwn", spec := "diskOwn", unfollowed := true, recurses := true, apart := false }
def DiskOwnSaid : Prop := diskOwnRow.holds Try.pinned (OpenSpec.ofChange diskOwnSpec)

/-- ITS FALSE NEIGHBOUR: 'it returns false'. Refute it at one input. -/
def diskOwnWrong : ChangeSpec := { name := "diskOwn", fn := fun _ => fun
  | [d1, d2] => { results := [.lit (.bool false)], args := [d1, d2] }
  | _ => none }
def DiskOwnWrongFalsely : Prop := diskOwnRow.holds Try.pinned (OpenSpec.ofChange diskOwnWrong)

/-- 'transeptlaw04.DiskHolds': WHATEVER THE INPUT: true; the input reads as it did. -/
def diskHoldsSpec : ChangeSpec := { name := "diskHolds", fn := fun _ => fun
  | [d1, d2, d3, d4] => { results := [.lit (.bool true)], args := [d1, d2, d3, d4] }
  | _ => none }
def diskHoldsRow : OpenClaim := { program := "ytiiphlfgdkjjiaa", sum := "e209505d7032d8ccc020f3b884ac007982c3d1209e2c437ae4f6416a4da9c2bb", func := "transept/transeptlaw04.DiskHolds", spec := "diskHolds", unfollowed := true, recurses := true, apart := false }
def DiskHoldsSaid : Prop := diskHoldsRow.holds Try.pinned (OpenSpec.ofChange diskHoldsSpec)

/-- ITS FALSE NEIGHBOUR: 'it returns false'. Refute it at one input. -/
def diskHoldsWrong : ChangeSpec := { name := "diskHolds", fn := fun _ => fun
  | [d1, d2, d3, d4] => { results := [.lit (.bool false)], args := [d1, d2, d3, d4] }
  | _ => none }
def DiskHoldsWrongFalsely : Prop := diskHoldsRow.holds Try.pinned (OpenSpec.ofChange diskHoldsWrong)

/-- 'transeptlaw04.DiskTorn': WHATEVER THE INPUT: true; the input reads as it did. -/
def diskTornSpec : ChangeSpec := { name := "diskTorn", fn := fun _ => fun
  | [d1, d2, d3, d4, d5] => { results := [.lit (.bool true)], args := [d1, d2, d3, d4, d5] }
  | _ => none }
def diskTornRow : OpenClaim := { program := "ytiiphlfgdkjjiaa", sum := "e209505d7032d8ccc020f3b884ac007982c3d1209e2c437ae4f6416a4da9c2bb", func := "transept/transeptlaw04.DiskTorn", spec := "diskTorn", unfollowed := true, recurses := true, apart := false }
def DiskTornSaid : Prop := diskTornRow.holds Try.pinned (OpenSpec.ofChange diskTornSpec)

/-- ITS FALSE NEIGHBOUR: 'it returns false'. Refute it at one input. -/
def diskTornWrong : ChangeSpec := { name := "diskTorn", fn := fun _ => fun
  | [d1, d2, d3, d4, d5] => { results := [.lit (.bool false)], args := [d1, d2, d3, d4, d5] }
  | _ => none }
def DiskTornWrongFalsely : Prop := diskTornRow.holds Try.pinned (OpenSpec.ofChange diskTornWrong)

/-- 'transeptlaw06.SuperBack': WHATEVER THE INPUT: true; the input reads as it did. -/
def superBackSpec : ChangeSpec := { name := "superBack", fn := fun _ => fun
  | [d1, d2] => { results := [.lit (.bool true)], args := [d1, d2] }
  | _ => none }
def superBackRow : OpenClaim := { program := "ytiiphlfgdkjjiaa", sum := "e209505d7032d8ccc020f3b884ac007982c3d1209e2c437ae4f6416a4da9c2bb", func := "transept/transeptlaw06.SuperBack", spec := "superBack", unfollowed := true, recurses := true, apart := false }
def SuperBackSaid : Prop := superBackRow.holds Try.pinned (OpenSpec.ofChange superBackSpec)

/-- ITS FALSE NEIGHBOUR: 'it returns false'. Refute it at one input. -/
def superBackWrong : ChangeSpec := { name := "superBack", fn := fun _ => fun
  | [d1, d2] => { results := [.lit (.bool false)], args := [d1, d2] }
  | _ => none }
def SuperBackWrongFalsely : Prop := superBackRow.holds Try.pinned (OpenSpec.ofChange superBackWrong)

/-- 'transeptlaw06.SuperOwn': WHATEVER THE INPUT: true; the input reads as it did. -/
def superOwnSpec : ChangeSpec := { name := "superOwn", fn := fun _ => fun
  | [d] => { results := [.lit (.bool true)], args := [d] }
  | _ => none }
def superOwnRow : OpenClaim := { program := "ytiiphlfgdkjjiaa", sum := "e209505d7032d8ccc020f3b884ac007982c3d1209e2c437ae4f6416a4da9c2bb", func := "transept/transeptlaw06.SuperOwn", spec := "superOwn", unfollowed := true, recurses := true, apart := false }
def SuperOwnSaid : Prop := superOwnRow.holds Try.pinned (OpenSpec.ofChange superOwnSpec)

/-- ITS FALSE NEIGHBOUR: 'it returns false'. Refute it at one input. -/
def superOwnWrong : ChangeSpec := { name := "superOwn", fn := fun _ => fun
  | [d] => { results := [.lit (.bool false)], args := [d] }
  | _ => none }
def SuperOwnWrongFalsely : Prop := superOwnRow.holds Try.pinned (OpenSpec.ofChange superOwnWrong)

/-- 'transeptlaw04.DiskTells': WHATEVER THE INPUT: true; the input reads as it did. -/
def diskTellsSpec : ChangeSpec := { name := "diskTells", fn := fun _ => fun
  | [d1, d2, d3, d4, d5] => { results := [.lit (.bool true)], args := [d1, d2, d3, d4, d5] }
  | _ => none }
def diskTellsRow : OpenClaim := { program := "ytiiphlfgdkjjiaa", sum := "e209505d7032d8ccc020f3b884ac007982c3d1209e2c437ae4f6416a4da9c2bb", func := "transept/transeptlaw04.DiskTells", spec := "diskTells", unfollowed := true, recurses := true, apart := false }
def DiskTellsSaid : Prop := diskTellsRow.holds Try.pinned (OpenSpec.ofChange diskTellsSpec)

/-- ITS FALSE NEIGHBOUR: 'it returns false'. Refute it at one input. -/
def diskTellsWrong : ChangeSpec := { name := "diskTells", fn := fun _ => fun
  | [d1, d2, d3, d4, d5] => { results := [.lit (.bool false)], args := [d1, d2, d3, d4, d5] }
  | _ => none }
def DiskTellsWrongFalsely : Prop := diskTellsRow.holds Try.pinned (OpenSpec.ofChange diskTellsWrong)

/-- 'transeptlaw06.SuperTells': WHATEVER THE INPUT: true; the input reads as it did. -/
def superTellsSpec : ChangeSpec := { name := "superTells", fn := fun _ => fun
  | [d1, d2, d3] => { results := [.lit (.bool true)], args := [d1, d2, d3] }
  | _ => none }
def superTellsRow : OpenClaim := { program := "ytiiphlfgdkjjiaa", sum := "e209505d7032d8ccc020f3b884ac007982c3d1209e2c437ae4f6416a4da9c2bb", func := "transept/transeptlaw06.SuperTells", spec := "superTells", unfollowed := true, recurses := true, apart := false }
def SuperTellsSaid : Prop := superTellsRow.holds Try.pinned (OpenSpec.ofChange superTellsSpec)

/-- ITS FALSE NEIGHBOUR: 'it returns false'. Refute it at one input. -/
def superTellsWrong : ChangeSpec := { name := "superTells", fn := fun _ => fun
  | [d1, d2, d3] => { results := [.lit (.bool false)], args := [d1, d2, d3] }
  | _ => none }
def SuperTellsWrongFalsely : Prop := superTellsRow.holds Try.pinned (OpenSpec.ofChange superTellsWrong)

/-- 'transeptlaw06.SuperDisks': WHATEVER THE INPUT: true; the input reads as it did. -/
def superDisksSpec : ChangeSpec := { name := "superDisks", fn := fun _ => fun
  | [d1, d2] => { results := [.lit (.bool true)], args := [d1, d2] }
  | _ => none }
def superDisksRow : OpenClaim := { program := "ytiiphlfgdkjjiaa", sum := "e209505d7032d8ccc020f3b884ac007982c3d1209e2c437ae4f6416a4da9c2bb", func := "transept/transeptlaw06.SuperDisks", spec := "superDisks", unfollowed := true, recurses := true, apart := false }
def SuperDisksSaid : Prop := superDisksRow.holds Try.pinned (OpenSpec.ofChange superDisksSpec)

/-- ITS FALSE NEIGHBOUR: 'it returns false'. Refute it at one input. -/
def superDisksWrong : ChangeSpec := { name := "superDisks", fn := fun _ => fun
  | [d1, d2] => { results := [.lit (.bool false)], args := [d1, d2] }
  | _ => none }
def SuperDisksWrongFalsely : Prop := superDisksRow.holds Try.pinned (OpenSpec.ofChange superDisksWrong)

/- THE SECOND FORM. 'bulk': how many values and letters a reading holds, each counted each time it is reached (what is shared counts as often as it is met; a slice's spare places count too). A statement '..UptoSaid' is the law's where the arguments, and the package variables that the reading takes, are together of bulk at most 1048576: NARROWER than '..Said'. Prove '..Said' where nothing that the law and all that it calls make is longer than what came in: it says more and counts as full. Else prove '..UptoSaid'. A law counts once. -/
mutual
def uptoBulk {H : Type} : DataW H → Nat
  | .lit (.string bytes) => bytes.length + 1
  | .lit _ => 1
  | .nil => 1
  | .ptr d => uptoBulk d + 1
  | .slice elems spare => uptoBulkAll elems + uptoBulkAll spare + 1
  | .agg parts => uptoBulkAll parts + 1
  | .iface _ d => uptoBulk d + 1
  | .map entries => uptoBulkEntries entries + 1
  | .held _ => 1
def uptoBulkAll {H : Type} : List (DataW H) → Nat
  | [] => 0
  | d :: r => uptoBulk d + uptoBulkAll r
def uptoBulkEntries {H : Type} : List (Lit × DataW H) → Nat
  | [] => 0
  | x :: r => uptoBulkEntry x + uptoBulkEntries r
def uptoBulkEntry {H : Type} : Lit × DataW H → Nat
  | (.string bytes, d) => bytes.length + uptoBulk d + 1
  | (_, d) => uptoBulk d + 1
 end
def uptoSmall : (H : Type) → List (DataW H) → Bool := fun _ ds => decide (uptoBulkAll ds ≤ 1048576)
def OpenSpec.upto (s : _root_.Go.ChangeSpec) : _root_.Go.OpenSpec := { _root_.Go.OpenSpec.ofChange s with cond := some uptoSmall }

/-- 'transeptlaw06.SuperRot', WHERE WHAT IT READS IS OF BULK AT MOST 1048576: true; the input reads as it did. -/
def superRotUptoRow : OpenClaim := { program := "ytiiphlfgdkjjiaa", sum := "e209505d7032d8ccc020f3b884ac007982c3d1209e2c437ae4f6416a4da9c2bb", func := "transept/transeptlaw06.SuperRot", spec := "superRot", unfollowed := true, recurses := true, apart := false, narrowed := true }
def SuperRotUptoSaid : Prop := superRotUptoRow.holds Try.pinned (OpenSpec.upto superRotSpec)

/-- 'transeptlaw04.DiskCrashes', WHERE WHAT IT READS IS OF BULK AT MOST 1048576: true; the input reads as it did. -/
def diskCrashesUptoRow : OpenClaim := { program := "ytiiphlfgdkjjiaa", sum := "e209505d7032d8ccc020f3b884ac007982c3d1209e2c437ae4f6416a4da9c2bb", func := "transept/transeptlaw04.DiskCrashes", spec := "diskCrashes", unfollowed := true, recurses := true, apart := false, narrowed := true }
def DiskCrashesUptoSaid : Prop := diskCrashesUptoRow.holds Try.pinned (OpenSpec.upto diskCrashesSpec)

/-- 'transeptlaw04.DiskOldOrNew', WHERE WHAT IT READS IS OF BULK AT MOST 1048576: true; the input reads as it did. -/
def diskOldOrNewUptoRow : OpenClaim := { program := "ytiiphlfgdkjjiaa", sum := "e209505d7032d8ccc020f3b884ac007982c3d1209e2c437ae4f6416a4da9c2bb", func := "transept/transeptlaw04.DiskOldOrNew", spec := "diskOldOrNew", unfollowed := true, recurses := true, apart := false, narrowed := true }
def DiskOldOrNewUptoSaid : Prop := diskOldOrNewUptoRow.holds Try.pinned (OpenSpec.upto diskOldOrNewSpec)

/-- 'transeptlaw04.DiskOwn', WHERE WHAT IT READS IS OF BULK AT MOST 1048576: true; the input reads as it did. -/
def diskOwnUptoRow : OpenClaim := { program := "ytiiphlfgdkjjiaa", sum := "e209505d7032d8ccc020f3b884ac007982c3d1209e2c437ae4f6416a4da9c2bb", func := "transept/transeptlaw04.DiskOwn", spec := "diskOwn", unfollowed := true, recurses := true, apart := false, narrowed := true }
def DiskOwnUptoSaid : Prop := diskOwnUptoRow.holds Try.pinned (OpenSpec.upto diskOwnSpec)

/-- 'transeptlaw04.DiskHolds', WHERE WHAT IT READS IS OF BULK AT MOST 1048576: true; the input reads as it did. -/
def diskHoldsUptoRow : OpenClaim := { program := "ytiiphlfgdkjjiaa", sum := "e209505d7032d8ccc020f3b884ac007982c3d1209e2c437ae4f6416a4da9c2bb", func := "transept/transeptlaw04.DiskHolds", spec := "diskHolds", unfollowed := true, recurses := true, apart := false, narrowed := true }
def DiskHoldsUptoSaid : Prop := diskHoldsUptoRow.holds Try.pinned (OpenSpec.upto diskHoldsSpec)

/-- 'transeptlaw04.DiskTorn', WHERE WHAT IT READS IS OF BULK AT MOST 1048576: true; the input reads as it did. -/
def diskTornUptoRow : OpenClaim := { program := "ytiiphlfgdkjjiaa", sum := "e209505d7032d8ccc020f3b884ac007982c3d1209e2c437ae4f6416a4da9c2bb", func := "transept/transeptlaw04.DiskTorn", spec := "diskTorn", unfollowed := true, recurses := true, apart := false, narrowed := true }
def DiskTornUptoSaid : Prop := diskTornUptoRow.holds Try.pinned (OpenSpec.upto diskTornSpec)

/-- 'transeptlaw06.SuperBack', WHERE WHAT IT READS IS OF BULK AT MOST 1048576: true; the input reads as it did. -/
def superBackUptoRow : OpenClaim := { program := "ytiiphlfgdkjjiaa", sum := "e209505d7032d8ccc020f3b884ac007982c3d1209e2c437ae4f6416a4da9c2bb", func := "transept/transeptlaw06.SuperBack", spec := "superBack", unfollowed := true, recurses := true, apart := false, narrowed := true }
def SuperBackUptoSaid : Prop := superBackUptoRow.holds Try.pinned (OpenSpec.upto superBackSpec)

/-- 'transeptlaw06.SuperOwn', WHERE WHAT IT READS IS OF BULK AT MOST 1048576: true; the input reads as it did. -/
def superOwnUptoRow : OpenClaim := { program := "ytiiphlfgdkjjiaa", sum := "e209505d7032d8ccc020f3b884ac007982c3d1209e2c437ae4f6416a4da9c2bb", func := "transept/transeptlaw06.SuperOwn", spec := "superOwn", unfollowed := true, recurses := true, apart := false, narrowed := true }
def SuperOwnUptoSaid : Prop := superOwnUptoRow.holds Try.pinned (OpenSpec.upto superOwnSpec)

/-- 'transeptlaw04.DiskTells', WHERE WHAT IT READS IS OF BULK AT MOST 1048576: true; the input reads as it did. -/
def diskTellsUptoRow : OpenClaim := { program := "ytiiphlfgdkjjiaa", sum := "e209505d7032d8ccc020f3b884ac007982c3d1209e2c437ae4f6416a4da9c2bb", func := "transept/transeptlaw04.DiskTells", spec := "diskTells", unfollowed := true, recurses := true, apart := false, narrowed := true }
def DiskTellsUptoSaid : Prop := diskTellsUptoRow.holds Try.pinned (OpenSpec.upto diskTellsSpec)

/-- 'transeptlaw06.SuperTells', WHERE WHAT IT READS IS OF BULK AT MOST 1048576: true; the input reads as it did. -/
def superTellsUptoRow : OpenClaim := { program := "ytiiphlfgdkjjiaa", sum := "e209505d7032d8ccc020f3b884ac007982c3d1209e2c437ae4f6416a4da9c2bb", func := "transept/transeptlaw06.SuperTells", spec := "superTells", unfollowed := true, recurses := true, apart := false, narrowed := true }
def SuperTellsUptoSaid : Prop := superTellsUptoRow.holds Try.pinned (OpenSpec.upto superTellsSpec)

/-- 'transeptlaw06.SuperDisks', WHERE WHAT IT READS IS OF BULK AT MOST 1048576: true; the input reads as it did. -/
def superDisksUptoRow : OpenClaim := { program := "ytiiphlfgdkjjiaa", sum := "e209505d7032d8ccc020f3b884ac007982c3d1209e2c437ae4f6416a4da9c2bb", func := "transept/transeptlaw06.SuperDisks", spec := "superDisks", unfollowed := true, recurses := true, apart := false, narrowed := true }
def SuperDisksUptoSaid : Prop := superDisksUptoRow.holds Try.pinned (OpenSpec.upto superDisksSpec)

end Rows
end Go.Proofs.Ytiiphlfgdkjjiaa
