/-
  No cell of these rows narrows 'for every input' (looked for: loops, veiled, ifaces, maps, wideKeys, modest, calm, conditions, laid).
  DERIVED. THE GIVEN ROWS OF THIS SEAT. 5 by the template 'for every input the law returns true; each argument reads behind the call as it read before'; 0 by the template 'total and deterministic' (their statements: YteplhacanofeoaaTotals.lean).
  GIVEN WITH THE SEED: the statements are not yours to turn. If you find one false, say at which input.
  Laid BY PROGRAM, IN A SANDBOX (cutbox-rows.mjs): the forced cells as the released guide's own fill.sh prints them over the translation dcca9948b5d0275f… (all of the seat's roots in one cut). By AI agents, Wed Nov 11 2026. No macro, syntax, notation, axiom, sorry.
-/
import Derived.Test.YteplhacanofeoaaChecked
import GoSem.Claim
import GoSem.ClaimJoined
import GoSem.ClaimMapViews
import Derived.JoinedTies
import Derived.KernelRfl
namespace Go.Proofs.Yteplhacanofeoaa
/- THE CELL 'sum', in the pinned program and in every row, IS THE sha256 OF THE DUMP (.gsa) THAT YteplhacanofeoaaProg.lean LOADS. Nothing in Lean hashes anything: it is a label: what it is worth is what the hold of that sum in a sandbox is worth. -/
noncomputable def Try.pinned : Pinned := { name := "yteplhacanofeoaa", sum := "dcca9948b5d0275fc435c38152333d37fde42987aa7ddbdb2cfc297d2c0738e3", checked := Try.checked }
namespace Rows
def none {H : Type} : Left H := { results := [], args := [] }

/-- 'transeptlaw15.RaftlogMatching': WHATEVER THE INPUT: true; the input reads as it did. -/
def raftlogMatchingSpec : ChangeSpec := { name := "raftlogMatching", fn := fun _ => fun
  | [d1, d2, d3] => { results := [.lit (.bool true)], args := [d1, d2, d3] }
  | _ => none }
def raftlogMatchingRow : OpenClaim := { program := "yteplhacanofeoaa", sum := "dcca9948b5d0275fc435c38152333d37fde42987aa7ddbdb2cfc297d2c0738e3", func := "transept/transeptlaw15.RaftlogMatching", spec := "raftlogMatching", apart := false }
def RaftlogMatchingSaid : Prop := raftlogMatchingRow.holds Try.pinned (OpenSpec.ofChange raftlogMatchingSpec)

/-- ITS FALSE NEIGHBOUR: 'it returns false'. Refute it at one input. -/
def raftlogMatchingWrong : ChangeSpec := { name := "raftlogMatching", fn := fun _ => fun
  | [d1, d2, d3] => { results := [.lit (.bool false)], args := [d1, d2, d3] }
  | _ => none }
def RaftlogMatchingWrongFalsely : Prop := raftlogMatchingRow.holds Try.pinned (OpenSpec.ofChange raftlogMatchingWrong)

/-- 'transeptlaw15.RaftlogOwn': WHATEVER THE INPUT: true; the input reads as it did. -/
def raftlogOwnSpec : ChangeSpec := { name := "raftlogOwn", fn := fun _ => fun
  | [d1, d2] => { results := [.lit (.bool true)], args := [d1, d2] }
  | _ => none }
def raftlogOwnRow : OpenClaim := { program := "yteplhacanofeoaa", sum := "dcca9948b5d0275fc435c38152333d37fde42987aa7ddbdb2cfc297d2c0738e3", func := "transept/transeptlaw15.RaftlogOwn", spec := "raftlogOwn", apart := false }
def RaftlogOwnSaid : Prop := raftlogOwnRow.holds Try.pinned (OpenSpec.ofChange raftlogOwnSpec)

/-- ITS FALSE NEIGHBOUR: 'it returns false'. Refute it at one input. -/
def raftlogOwnWrong : ChangeSpec := { name := "raftlogOwn", fn := fun _ => fun
  | [d1, d2] => { results := [.lit (.bool false)], args := [d1, d2] }
  | _ => none }
def RaftlogOwnWrongFalsely : Prop := raftlogOwnRow.holds Try.pinned (OpenSpec.ofChange raftlogOwnWrong)

/-- 'transeptlaw15.RaftlogCopies': WHATEVER THE INPUT: true; the input reads as it did. -/
def raftlogCopiesSpec : ChangeSpec := { name := "raftlogCopies", fn := fun _ => fun
  | [d1, d2] => { results := [.lit (.bool true)], args := [d1, d2] }
  | _ => none }
def raftlogCopiesRow : OpenClaim := { program := "yteplhacanofeoaa", sum := "dcca9948b5d0275fc435c38152333d37fde42987aa7ddbdb2cfc297d2c0738e3", func := "transept/transeptlaw15.RaftlogCopies", spec := "raftlogCopies", apart := false }
def RaftlogCopiesSaid : Prop := raftlogCopiesRow.holds Try.pinned (OpenSpec.ofChange raftlogCopiesSpec)

/-- ITS FALSE NEIGHBOUR: 'it returns false'. Refute it at one input. -/
def raftlogCopiesWrong : ChangeSpec := { name := "raftlogCopies", fn := fun _ => fun
  | [d1, d2] => { results := [.lit (.bool false)], args := [d1, d2] }
  | _ => none }
def RaftlogCopiesWrongFalsely : Prop := raftlogCopiesRow.holds Try.pinned (OpenSpec.ofChange raftlogCopiesWrong)

/-- 'transeptlaw15.RaftlogCompacts': WHATEVER THE INPUT: true; the input reads as it did. -/
def raftlogCompactsSpec : ChangeSpec := { name := "raftlogCompacts", fn := fun _ => fun
  | [d1, d2] => { results := [.lit (.bool true)], args := [d1, d2] }
  | _ => none }
def raftlogCompactsRow : OpenClaim := { program := "yteplhacanofeoaa", sum := "dcca9948b5d0275fc435c38152333d37fde42987aa7ddbdb2cfc297d2c0738e3", func := "transept/transeptlaw15.RaftlogCompacts", spec := "raftlogCompacts", apart := false }
def RaftlogCompactsSaid : Prop := raftlogCompactsRow.holds Try.pinned (OpenSpec.ofChange raftlogCompactsSpec)

/-- ITS FALSE NEIGHBOUR: 'it returns false'. Refute it at one input. -/
def raftlogCompactsWrong : ChangeSpec := { name := "raftlogCompacts", fn := fun _ => fun
  | [d1, d2] => { results := [.lit (.bool false)], args := [d1, d2] }
  | _ => none }
def RaftlogCompactsWrongFalsely : Prop := raftlogCompactsRow.holds Try.pinned (OpenSpec.ofChange raftlogCompactsWrong)

/-- 'transeptlaw15.RaftlogTells': WHATEVER THE INPUT: true; the input reads as it did. -/
def raftlogTellsSpec : ChangeSpec := { name := "raftlogTells", fn := fun _ => fun
  | [d1, d2, d3, d4] => { results := [.lit (.bool true)], args := [d1, d2, d3, d4] }
  | _ => none }
def raftlogTellsRow : OpenClaim := { program := "yteplhacanofeoaa", sum := "dcca9948b5d0275fc435c38152333d37fde42987aa7ddbdb2cfc297d2c0738e3", func := "transept/transeptlaw15.RaftlogTells", spec := "raftlogTells", apart := false }
def RaftlogTellsSaid : Prop := raftlogTellsRow.holds Try.pinned (OpenSpec.ofChange raftlogTellsSpec)

/-- ITS FALSE NEIGHBOUR: 'it returns false'. Refute it at one input. -/
def raftlogTellsWrong : ChangeSpec := { name := "raftlogTells", fn := fun _ => fun
  | [d1, d2, d3, d4] => { results := [.lit (.bool false)], args := [d1, d2, d3, d4] }
  | _ => none }
def RaftlogTellsWrongFalsely : Prop := raftlogTellsRow.holds Try.pinned (OpenSpec.ofChange raftlogTellsWrong)

/- THE SECOND FORM. 'bulk': how many values and letters a reading holds, each counted each time it is reached (what is shared counts as often as it is met; a slice's spare places count too). A statement '..UptoSaid' is the law's where the arguments, and the package variables that the reading takes, are together of bulk at most 1048576: NARROWER than '..Said'. Prove '..Said' where nothing that the law and all that it calls make is longer than what came in: it says more and counts as full. Else prove '..UptoSaid'. A law counts once. -/
mutual
def uptoBulk {H : Type} : DataW H → Nat
  | .lit (.string bytes) => bytes.length + 1
  | .lit _ => 1
  | .nil => 1
  | .ptr d => uptoBulk d + 1
  | .slice elems spare => uptoBulkAll elems + uptoBulkAll spare + 1
  | .agg parts => uptoBulkAll parts + 1
  | .iface _ d => uptoBulk d + 1
  | .map entries => uptoBulkEntries entries + 1
  | .held _ => 1
def uptoBulkAll {H : Type} : List (DataW H) → Nat
  | [] => 0
  | d :: r => uptoBulk d + uptoBulkAll r
def uptoBulkEntries {H : Type} : List (Lit × DataW H) → Nat
  | [] => 0
  | x :: r => uptoBulkEntry x + uptoBulkEntries r
def uptoBulkEntry {H : Type} : Lit × DataW H → Nat
  | (.string bytes, d) => bytes.length + uptoBulk d + 1
  | (_, d) => uptoBulk d + 1
 end
def uptoSmall : (H : Type) → List (DataW H) → Bool := fun _ ds => decide (uptoBulkAll ds ≤ 1048576)
def OpenSpec.upto (s : _root_.Go.ChangeSpec) : _root_.Go.OpenSpec := { _root_.Go.OpenSpec.ofChange s with cond := some uptoSmall }

/-- 'transeptlaw15.RaftlogMatching', WHERE WHAT IT READS IS OF BULK AT MOST 1048576: true; the input reads as it did. -/
def raftlogMatchingUptoRow : OpenClaim := { program := "yteplhacanofeoaa", sum := "dcca9948b5d0275fc435c38152333d37fde42987aa7ddbdb2cfc297d2c0738e3", func := "transept/transeptlaw15.RaftlogMatching", spec := "raftlogMatching", apart := false, narrowed := true }
def RaftlogMatchingUptoSaid : Prop := raftlogMatchingUptoRow.holds Try.pinned (OpenSpec.upto raftlogMatchingSpec)

/-- 'transeptlaw15.RaftlogOwn', WHERE WHAT IT READS IS OF BULK AT MOST 1048576: true; the input reads as it did. -/
def raftlogOwnUptoRow : OpenClaim := { program := "yteplhacanofeoaa", sum := "dcca9948b5d0275fc435c38152333d37fde42987aa7ddbdb2cfc297d2c0738e3", func := "transept/transeptlaw15.RaftlogOwn", spec := "raftlogOwn", apart := false, narrowed := true }
def RaftlogOwnUptoSaid : Prop := raftlogOwnUptoRow.holds Try.pinned (OpenSpec.upto raftlogOwnSpec)

/-- 'transeptlaw15.RaftlogCopies', WHERE WHAT IT READS IS OF BULK AT MOST 1048576: true; the input reads as it did. -/
def raftlogCopiesUptoRow : OpenClaim := { program := "yteplhacanofeoaa", sum := "dcca9948b5d0275fc435c38152333d37fde42987aa7ddbdb2cfc297d2c0738e3", func := "transept/transeptlaw15.RaftlogCopies", spec := "raftlogCopies", apart := false, narrowed := true }
def RaftlogCopiesUptoSaid : Prop := raftlogCopiesUptoRow.holds Try.pinned (OpenSpec.upto raftlogCopiesSpec)

/-- 'transeptlaw15.RaftlogCompacts', WHERE WHAT IT READS IS OF BULK AT MOST 1048576: true; the input reads as it did. -/
def raftlogCompactsUptoRow : OpenClaim := { program := "yteplhacanofeoaa", sum := "dcca9948b5d0275fc435c38152333d37fde42987aa7ddbdb2cfc297d2c0738e3", func := "transept/transeptlaw15.RaftlogCompacts", spec := "raftlogCompacts", apart := false, narrowed := true }
def RaftlogCompactsUptoSaid : Prop := raftlogCompactsUptoRow.holds Try.pinned (OpenSpec.upto raftlogCompactsSpec)

/-- 'transeptlaw15.RaftlogTells', WHERE WHAT IT READS IS OF BULK AT MOST 1048576: true; the input reads as it did. -/
def raftlogTellsUptoRow : OpenClaim := { program := "yteplhacanofeoaa", sum := "dcca9948b5d0275fc435c38152333d37fde42987aa7ddbdb2cfc297d2c0738e3", func := "transept/transeptlaw15.RaftlogTells", spec := "raftlogTells", apart := false, narrowed := true }
def RaftlogTellsUptoSaid : Prop := raftlogTellsUptoRow.holds Try.pinned (OpenSpec.upto raftlogTellsSpec)

end Rows
end Go.Proofs.Yteplhacanofeoaa
