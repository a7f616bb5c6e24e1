/- Short names for what a printed proof says again and again; no condition. -/
import Derived.Test.YtiiphlfgdkjjiaaWWords
import Derived.Test.YtiiphlfgdkjjiaaWApart
import Derived.Laws.Tables
namespace Go.Proofs.Ytiiphlfgdkjjiaa.Q
open Go.RowKit Go.Proofs.YtiiphlfgdkjjiaaW.PrintWords
abbrev Y : Bool := true
abbrev X : Bool := false
universe u
theorem A1 {α : Type u} (l : List α) (i : Nat) (a : α) : l.toArray.setIfInBounds i a = (l.set i a).toArray := by simp
theorem A2 {α : Type u} (x : α) (xs : List α) (a : α) : (x :: xs).set 0 a = a :: xs := rfl
theorem A3 {α : Type u} (x : α) (xs : List α) (n : Nat) (a : α) : (x :: xs).set (n + 1) a = x :: xs.set n a := rfl
theorem CF {w : World} {a : Addr} {b o : Nat} {u v : Value} (h : a.block ≠ b) (e : w.cell? a = some v) : (w.setCell ⟨b, o, none⟩ u).cell? a = some v :=
  (World.cell?_of_block (Below.heap_setCell w ⟨b, o, none⟩ u a.block h)).trans e
theorem CO {w0 w : World} {a a0 : Addr} {b o : Nat} {u v v0 : Value} (h : w0.cell? a0 = some v0) (hg : w0.heap.size ≤ b) (e : w.cell? a = some v) (hb : a.block = a0.block := by first | rfl | simp only [add_block]) :
    (w.setCell ⟨b, o, none⟩ u).cell? a = some v := CF (by rw [hb]; exact Nat.ne_of_lt (Nat.lt_of_lt_of_le (World.block_lt_of_cell? _ _ h) hg)) e
/-- The same row, the same block, in a world that has more (the tactic finds which). -/
theorem SU {α : Type} {d : Kd α} {e base : Nat} {w w1 : World} {ok : Nat → Prop} {v : Value} {xs : List α} (h : Kd.S d e w base ok v xs)
    (hb : Below w.heap.size w w1 := by with_reducible repeat (first | exact Below.refl _ _ | apply below_alloc | apply pw_below_drewN | apply below_drew)) : Kd.S d e w1 base ok v xs := Kd.S_below h hb
theorem RU {α : Type} {d : Kd α} {e base : Nat} {w w1 : World} {ok : Nat → Prop} {v : Value} {xs : List α} (h : d.R e w base ok v xs)
    (hb : Below w.heap.size w w1 := by with_reducible repeat (first | exact Below.refl _ _ | apply below_alloc | apply pw_below_drewN | apply below_drew)) : d.R e w1 base ok v xs := Kd.R_below h hb
theorem BU {w w1 : World} {g : Nat} {o : Obj} (h : w.heap[g]? = some o)
    (hb : Below w.heap.size w w1 := by with_reducible repeat (first | exact Below.refl _ _ | apply below_alloc | apply pw_below_drewN | apply below_drew)) : w1.heap[g]? = some o := blk_below h hb
end Go.Proofs.Ytiiphlfgdkjjiaa.Q
