/- A row that was copied cell by cell, and whose elements are then replaced one by one by copies in memory of their own: what it holds on the way, and behind it; no condition. -/
import Derived.Test.YtiiphlfgdkjjiaaZRotWApart
namespace Go.Proofs.Ytiiphlfgdkjjiaa.Q
open Go.RowKit Go.Proofs.YtiiphlfgdkjjiaaW.PrintWords Go.Proofs.YtiiphlfgdkjjiaaW.PrintLast

/-- An element that is done is of the call's own, its blocks are those that f gives to it; one that isn't is read in w0. -/
def half {α : Type} (f : Nat → Nat) (w0 : World) (d : Kd α) : Kd (α × Nat × Bool) where
  sz := d.sz
  E := d.E
  K := fun w x cs => if x.2.2 = true then d.K w x.1 cs else d.K w0 x.1 cs
  M := fun w base ok x cs => if x.2.2 = true then d.M w base (fun k => ok k ∧ f k = x.2.1) x.1 cs else d.K w0 x.1 cs
  K_len := by
    intro w x cs h
    split at h
    · exact d.K_len h
    · exact d.K_len h
  K_one := by
    intro w x cs h
    split at h
    · exact d.K_one h
    · exact d.K_one h
  K_below := by
    intro w w1 x cs hb h
    split at h
    · rename_i hx; rw [if_pos hx]; exact d.K_below hb h
    · rename_i hx; rw [if_neg hx]; exact h
  K_of_M := by
    intro w base ok x cs h
    split at h
    · rename_i hx; rw [if_pos hx]; exact d.K_of_M h
    · rename_i hx; rw [if_neg hx]; exact h
  M_mono := by
    intro w base ok ok' x cs hok h
    split at h
    · rename_i hx; rw [if_pos hx]; exact d.M_mono (fun k hk => ⟨hok k hk.1, hk.2⟩) h
    · rename_i hx; rw [if_neg hx]; exact h
  M_bound := by
    intro w base ok x cs h
    split at h
    · rename_i hx; rw [if_pos hx]; exact d.M_mono (fun _ hk => ⟨⟨hk.1.1, hk.2⟩, hk.1.2⟩) (d.M_bound h)
    · rename_i hx; rw [if_neg hx]; exact h
  M_move := by
    intro w w1 base ok x cs hm h
    split at h
    · rename_i hx; rw [if_pos hx]; exact d.M_move (fun k hk => hm k hk.1) h
    · rename_i hx; rw [if_neg hx]; exact h
  M_lower := by
    intro w base base' ok x cs hb h
    split at h
    · rename_i hx; rw [if_pos hx]; exact d.M_lower hb h
    · rename_i hx; rw [if_neg hx]; exact h

/-- The elements, the first k done. -/
def marks {α : Type} (xs : List α) (k : Nat) : List (α × Nat × Bool) := xs.zipIdx.map fun p => (p.1, p.2, decide (p.2 < k))
section
variable {α : Type} {d : Kd α} {e base g n cap : Nat} {ok : Nat → Prop} {w0 W W2 : World} {v : Value} {xs : List α} {k : Nat} {f : Nat → Nat}
theorem marks_length : (marks xs k).length = xs.length := by simp [marks]
theorem marks_at {j : Nat} {p : α × Nat × Bool} (h : (marks xs k)[j]? = some p) : ∃ x, xs[j]? = some x ∧ p = (x, j, decide (j < k)) := by
  unfold marks at h
  rw [List.getElem?_map, List.getElem?_zipIdx] at h
  cases hx : xs[j]? with
  | none => rw [hx] at h; simp at h
  | some x =>
    rw [hx] at h
    refine ⟨x, rfl, ?_⟩
    simpa using h.symm
theorem marks_get {j : Nat} (hj : j < xs.length) : (marks xs k)[j]? = some (xs[j], j, decide (j < k)) := by
  unfold marks
  rw [List.getElem?_map, List.getElem?_zipIdx, List.getElem?_eq_getElem hj]
  simp
theorem marks_set (hk : k < xs.length) : (marks xs k).set k (xs[k], k, true) = marks xs (k + 1) := by
  apply List.ext_getElem?
  intro j
  by_cases hj : j < xs.length
  · rw [marks_get hj]
    by_cases hjk : k = j
    · subst hjk
      rw [List.getElem?_set_self (by rw [marks_length]; exact hk)]
      simp
    · rw [List.getElem?_set_ne hjk, marks_get hj]
      congr 3
      simp; omega
  · rw [List.getElem?_eq_none (by rw [List.length_set, marks_length]; omega), List.getElem?_eq_none (by rw [marks_length]; omega)]
theorem half_M_done {x : α} {j : Nat} {b : Bool} {cs : List Value} (hb : b = true) : (half f w0 d).M W base ok (x, j, b) cs = d.M W base (fun k => ok k ∧ f k = j) x cs := by subst hb; rfl
theorem half_M_not {x : α} {j : Nat} {b : Bool} {cs : List Value} (hb : b = false) : (half f w0 d).M W base ok (x, j, b) cs = d.K w0 x cs := by subst hb; rfl
theorem half_start (f : Nat → Nat) (h : (Kd.fixed d w0).R e W base ok v xs) : (half f w0 d).R e W base ok v (marks xs 0) := by
  obtain ⟨h0, inner, ho, hr⟩ := h
  refine ⟨h0, inner, by rw [marks_length]; exact ho, by rw [marks_length]; exact hr.1, fun j p hp => ?_⟩
  obtain ⟨x, hx, rfl⟩ := marks_at hp
  rw [half_M_not (by simp)]
  exact hr.2 j x hx
theorem half_done (h : (half f w0 d).R e W base ok v (marks xs xs.length)) : Kd.S d e W base ok v xs := by
  obtain ⟨h0, inner, ho, hr⟩ := h
  refine ⟨f, h0, inner, by rw [List.length_zipIdx, ← marks_length (xs := xs) (k := xs.length)]; exact ho, by rw [List.length_zipIdx, ← marks_length (xs := xs) (k := xs.length)]; exact hr.1, fun j p hp => ?_⟩
  rw [List.getElem?_zipIdx] at hp
  cases hx : xs[j]? with
  | none => rw [hx] at hp; simp at hp
  | some x =>
    rw [hx] at hp
    have hp' : (x, j) = p := by simpa using hp
    subst hp'
    have hj := (List.getElem?_eq_some_iff.1 hx).1
    have hm := hr.2 j _ (marks_get hj)
    rw [half_M_done (by simp; exact hj)] at hm
    have hxx : xs[j] = x := by rw [List.getElem?_eq_getElem hj] at hx; exact Option.some.inj hx
    rw [hxx] at hm
    exact hm
/-- The element at hand, read. -/
theorem half_read (h : (half f w0 d).R e W base ok (.slice (some ⟨g, 0, none⟩) n cap) (marks xs k)) (hn : n = xs.length) (hk : k < xs.length) :
    ∃ c, c.length = d.sz ∧ d.K w0 xs[k] c ∧ (∀ j u, c[j]? = some u → W.cell? ⟨g, k * d.sz + j, none⟩ = some u) ∧ ∀ j, W.frozen? ⟨g, k * d.sz + j, none⟩ = false := by
  obtain ⟨c, hl, hM, hc, hf⟩ := Kd.R_elem h (xs[k], k, true) (k : Int) (by omega) (by omega)
  rw [Int.toNat_natCast, List.getD_eq_getElem?_getD, marks_get hk] at hM
  rw [Option.getD_some, half_M_not (by simp)] at hM
  exact ⟨c, hl, hM, hc, hf⟩
/-- The element at hand, done: its new blocks are all younger than W. -/
theorem half_step (h : (half f w0 d).R e W base ok (.slice (some ⟨g, 0, none⟩) n cap) (marks xs k)) (hn : n = xs.length) (hk : k < xs.length) (hb : Below W.heap.size W W2) (hbase : base ≤ W.heap.size) {c seg : List Value} {j : Nat}
    (hcl : c.length = d.sz) (hcc : ∀ j u, c[j]? = some u → W.cell? ⟨g, k * d.sz + j, none⟩ = some u) (hj : j + seg.length ≤ d.sz)
    (hM : d.M W2 W.heap.size (fun b => ok b) xs[k] (c.take j ++ seg ++ c.drop (j + seg.length))) :
    ∃ f', (half f' w0 d).R e (W2.setCells g (k * d.sz + j) seg) base ok (.slice (some ⟨g, 0, none⟩) n cap) (marks xs (k + 1)) ∧ W2.grownBy (W2.setCells g (k * d.sz + j) seg) (some g) := by
  have hg : g < W.heap.size := by
    obtain ⟨_, inner, ho, _⟩ := h
    exact own_lt ho g (by simp [Value.ownBlock])
  let f' : Nat → Nat := fun b => if b < W.heap.size then f b else k
  have h1 : (half f' w0 d).R e W base ok (.slice (some ⟨g, 0, none⟩) n cap) (marks xs k) := by
    obtain ⟨h0, inner, ho, hr⟩ := h
    refine ⟨h0, inner, ho, hr.imp_ (fun p cs hp => ?_)⟩
    have hp' : if p.2.2 = true then d.M W base (fun b => (ok b ∧ some b ≠ (Value.slice (some ⟨g, 0, none⟩) n cap).ownBlock) ∧ f b = p.2.1) p.1 cs else d.K w0 p.1 cs := hp
    show if p.2.2 = true then d.M W base (fun b => (ok b ∧ some b ≠ (Value.slice (some ⟨g, 0, none⟩) n cap).ownBlock) ∧ f' b = p.2.1) p.1 cs else d.K w0 p.1 cs
    split
    · rename_i ht
      rw [if_pos ht] at hp'
      refine d.M_mono (fun b hb => ⟨hb.1.1, ?_⟩) (d.M_bound hp')
      show (if b < W.heap.size then f b else k) = p.2.1
      rw [if_pos hb.2.2.1]
      exact hb.1.2
    · rename_i ht
      rw [if_neg ht] at hp'
      exact hp'
  have h2 := Kd.R_below h1 hb
  have hcc2 : ∀ j u, c[j]? = some u → W2.cell? ⟨g, (k : Int).toNat * d.sz + j, none⟩ = some u := fun j u hu => by
    rw [Int.toNat_natCast]
    exact pw_cell_below hb (hcc j u hu)
  have hM2 : (half f' w0 d).M W2 base (fun b => ok b ∧ b ≠ g) (xs[k], k, true) (c.take j ++ seg ++ c.drop (j + seg.length)) := by
    rw [half_M_done rfl]
    refine d.M_lower hbase (d.M_mono (fun b hb => ⟨⟨hb.1, by have := hb.2.1; omega⟩, ?_⟩) (d.M_bound hM))
    show (if b < W.heap.size then f b else k) = k
    rw [if_neg (by have := hb.2.1; omega)]
  have h3 := Kd.R_seg h2 (k : Int) (by omega) (by omega) hcl hcc2 hj hM2 (fun _ hk => hk)
  rw [Int.toNat_natCast, marks_set hk] at h3
  exact ⟨f', h3⟩
end
end Go.Proofs.Ytiiphlfgdkjjiaa.Q
