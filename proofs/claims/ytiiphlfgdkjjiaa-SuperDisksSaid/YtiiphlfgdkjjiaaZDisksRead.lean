/- What the form reads of an argument is of the kind that its type says, fits, and is of a bulk; no condition. -/
import Derived.Test.YtiiphlfgdkjjiaaRows
import Derived.Deep.Slices
import Derived.SizedLaws
import Derived.Test.YtiiphlfgdkjjiaaZDisksWWords
namespace Go.Proofs.Ytiiphlfgdkjjiaa.Read
open Go.RowKit Go.Proofs.YtiiphlfgdkjjiaaW.PrintWords Go.ChangeShapes Go.WideShapes Go.Deep

structure Opens (P : Program) (t : TypeId) {α : Type} (d : Kd α) (F : α → Prop) (μ : α → Nat) : Prop where
  out : ∀ {H : Type} {enc : TypeId × Value → H} {w : World} {base : Nat} {spare : Nat → Bool} {held : Bool} {fuel : Nat} {cs : List Value} {x : DataW H × List MemPlace},
    DataW.trod enc P w base spare held fuel t cs = some x → (x.1.weights P t).all (· ≤ reachBytes) = true → ∃ y : α, d.K w y cs ∧ F y ∧ μ y ≤ Rows.uptoBulk x.1

theorem bulk_append {H : Type} (l r : List (DataW H)) : Rows.uptoBulkAll (l ++ r) = Rows.uptoBulkAll l + Rows.uptoBulkAll r := by
  induction l with
  | nil => simp [Rows.uptoBulkAll]
  | cons x l ih => simp only [List.cons_append, Rows.uptoBulkAll, ih]; omega

section
variable {P : Program} {t e : TypeId}
theorem opens_int {k : IntKind} (ht : P.underlying t = some (.int k)) : Opens P t (Kd.int k) (fun n => (Lit.int k n).wf = true) (fun _ => 1) := by
  refine ⟨?_⟩
  intro H enc w base spare held fuel cs x h _
  obtain ⟨n, rfl, rfl, hw⟩ := DataW.trod_int ht h
  exact ⟨n, rfl, hw, by simp [Rows.uptoBulk]⟩
def FitsL {α : Type} (B : Nat) (F : α → Prop) (xs : List α) : Prop := xs.length ≤ maxLen ∧ xs.length * B ≤ 140737488351232 ∧ ∀ x ∈ xs, F x
def bulkL {α : Type} (μ : α → Nat) (xs : List α) : Nat := (xs.map μ).sum + 1

theorem list_of {α H : Type} (Q : Nat → α → Prop) (μ : α → Nat) (D : Nat → DataW H) : ∀ n, (∀ i, i < n → ∃ y, Q i y ∧ μ y ≤ Rows.uptoBulk (D i)) →
    ∃ xs : List α, xs.length = n ∧ (∀ (j : Nat) p, xs[j]? = some p → Q j p) ∧ (xs.map μ).sum ≤ Rows.uptoBulkAll ((List.range n).map D) := by
  intro n
  induction n with
  | zero => intro _; exact ⟨[], rfl, fun j p h => by simp at h, by simp⟩
  | succ n ih =>
    intro h
    obtain ⟨xs, hl, hq, hs⟩ := ih (fun i hi => h i (by omega))
    obtain ⟨y, hy, hm⟩ := h n (by omega)
    refine ⟨xs ++ [y], by simp [hl], fun j p hp => ?_, ?_⟩
    · rcases Nat.lt_or_ge j xs.length with hj | hj
      · rw [List.getElem?_append_left hj] at hp
        exact hq j p hp
      · rw [List.getElem?_append_right hj] at hp
        have hj' : j = n := by
          have := (List.getElem?_eq_some_iff.1 hp).1
          simp at this; omega
        subst hj'
        rw [hl, Nat.sub_self] at hp
        have : y = p := by simpa using hp
        exact this ▸ hy
    · rw [List.range_succ, List.map_append (f := D), bulk_append, List.map_append (f := μ), List.sum_append]
      simp only [List.map_cons, List.map_nil, List.sum_cons, List.sum_nil, Rows.uptoBulkAll]
      omega
theorem weights_at {H : Type} (D : Nat → DataW H) : ∀ (n i : Nat), i < n → ∀ u ∈ (D i).weights P e, u ∈ DataW.weightsAll P e ((List.range n).map D) := by
  have ap : ∀ (l r : List (DataW H)), DataW.weightsAll P e (l ++ r) = DataW.weightsAll P e l ++ DataW.weightsAll P e r := by
    intro l r
    induction l with
    | nil => simp [DataW.weightsAll]
    | cons x l ih => simp only [List.cons_append, DataW.weightsAll, ih, List.append_assoc]
  intro n
  induction n with
  | zero => intro i hi; omega
  | succ n ih =>
    intro i hi u hu
    rw [List.range_succ, List.map_append, ap]
    rcases Nat.lt_or_ge i n with h | h
    · exact List.mem_append_left _ (ih i h u hu)
    · have : i = n := by omega
      subst this
      refine List.mem_append_right _ ?_
      simpa [DataW.weightsAll] using hu

theorem opens_slice {α : Type} {d : Kd α} {F : α → Prop} {μ : α → Nat} (ht : P.underlying t = some (.slice e)) (hc : P.cellsOf e = d.sz) {B : Nat} (hB : P.bytesOf e = B) (h1 : Opens P e d F μ) :
    Opens P t (Kd.slice e d) (FitsL B F) (bulkL μ) := by
  refine ⟨?_⟩
  intro H enc w base spare held fuel cs x h hw
  rcases open_slice ht h with ⟨rfl, rfl⟩ | ⟨a, len, cap, m, n, D, Pl, rfl, hb, hl, hm, hmm, rfl, hx⟩
  · exact ⟨[], ⟨none, 0, rfl, Nat.le_refl _, Kd.C_nil _ _⟩, ⟨by simp, by simp, fun x hx => by simp at hx⟩, by simp [bulkL, Rows.uptoBulk]⟩
  · have hlm : len ≤ m := by rw [hmm]; split <;> omega
    simp only [DataW.weights, ht, List.length_map, List.length_range, hB] at hw
    have hw0 := List.all_eq_true.1 hw ((len + (m - len)) * B) List.mem_cons_self
    obtain ⟨xs, hlen, hq, hs⟩ := list_of (fun i y => F y ∧ ∃ c, c.length = d.sz ∧ d.K w y c ∧ ∀ k u, c[k]? = some u → w.cell? (a.add (i * d.sz + k)) = some u) μ D len (fun i hi => by
      obtain ⟨cs', hcs, htr⟩ := hx i (by omega)
      obtain ⟨y, hK, hF, hmu⟩ := h1.out htr (List.all_eq_true.2 fun u hu => List.all_eq_true.1 hw u (List.mem_cons_of_mem _ (List.mem_append_left _ (weights_at D len i hi u hu))))
      rw [hc] at hcs
      obtain ⟨_, hlen', hcell⟩ := World.cells?_some hcs
      refine ⟨y, ⟨hF, cs', hlen', hK, fun k u hu => ?_⟩, hmu⟩
      have hk : k < d.sz := by
        have := (List.getElem?_eq_some_iff.1 hu).1
        omega
      have := hcell k hk
      rw [Go.Deep.add_add] at this
      exact this.trans hu)
    refine ⟨xs, ⟨some a, cap, by rw [hlen], by omega, ⟨rfl, ?_, fun _ => ⟨a, rfl, fun j p hp => (hq j p hp).2⟩⟩⟩, ⟨by omega, ?_, fun x hx => ?_⟩, ?_⟩
    · simp only [maxLen] at hm; omega
    · have h0 : (len + (m - len)) * B ≤ reachBytes := of_decide_eq_true hw0
      have h2 : len * B ≤ (len + (m - len)) * B := Nat.mul_le_mul_right _ (by omega)
      rw [hlen]
      have : reachBytes = 140737488351232 := rfl
      omega
    · obtain ⟨j, hj, rfl⟩ := List.getElem_of_mem hx
      exact (hq j _ (List.getElem?_eq_getElem hj)).1
    · simp only [bulkL, Rows.uptoBulk]; omega

structure OpensF (P : Program) (fs : List Field) (off : Nat) {α : Type} (d : Kd α) (F : α → Prop) (μ : α → Nat) : Prop where
  out : ∀ {H : Type} {enc : TypeId × Value → H} {w : World} {base : Nat} {spare : Nat → Bool} {held : Bool} {n : Nat} {cs : List Value} {xs : List (DataW H × List MemPlace)},
    cs.length = off + d.sz → xs.length = fs.length → (∀ (i : Nat) (f : Field), fs[i]? = some f → DataW.trod enc P w base spare held n f.type ((cs.drop f.offset).take (P.cellsOf f.type)) = xs[i]?) →
    (DataW.weightsEach P (fs.map (·.type)) (xs.map (·.1))).all (· ≤ reachBytes) = true → ∃ y : α, d.K w y (cs.drop off) ∧ F y ∧ μ y ≤ Rows.uptoBulkAll (xs.map (·.1))
theorem opensF_one {α : Type} {d : Kd α} {F : α → Prop} {μ : α → Nat} {f : Field} {off : Nat} (ho : f.offset = off) (hc : P.cellsOf f.type = d.sz) (h1 : Opens P f.type d F μ) : OpensF P [f] off d F μ := by
  refine ⟨?_⟩
  intro H enc w base spare held n cs xs hl hx ht hw
  match xs, hx with
  | [x], _ =>
    have h := ht 0 f rfl
    rw [ho, hc, List.take_of_length_le (by rw [List.length_drop]; omega)] at h
    obtain ⟨y, hK, hF, hm⟩ := h1.out h (List.all_eq_true.2 fun u hu => List.all_eq_true.1 hw u (by simp only [List.map_cons, DataW.weightsEach]; exact List.mem_append_left _ hu))
    exact ⟨y, hK, hF, by simp only [List.map_cons, List.map_nil, Rows.uptoBulkAll]; omega⟩
theorem opensF_cons {α β : Type} {a : Kd α} {b : Kd β} {Fa : α → Prop} {Fb : β → Prop} {μa : α → Nat} {μb : β → Nat} {f : Field} {fs : List Field} {off : Nat} (ho : f.offset = off) (hc : P.cellsOf f.type = a.sz)
    (h1 : Opens P f.type a Fa μa) (h2 : OpensF P fs (off + a.sz) b Fb μb) : OpensF P (f :: fs) off (Kd.pair a b) (fun y => Fa y.1 ∧ Fb y.2) (fun y => μa y.1 + μb y.2) := by
  refine ⟨?_⟩
  intro H enc w base spare held n cs xs hl hx ht hw
  match xs, hx with
  | x :: xs, hx =>
    have hl' : cs.length = off + a.sz + b.sz := by rw [hl]; show off + (a.sz + b.sz) = _; omega
    have h := ht 0 f rfl
    rw [ho, hc] at h
    obtain ⟨y, hK, hF, hm⟩ := h1.out h (List.all_eq_true.2 fun u hu => List.all_eq_true.1 hw u (by simp only [List.map_cons, DataW.weightsEach]; exact List.mem_append_left _ hu))
    obtain ⟨z, hK2, hF2, hm2⟩ := h2.out hl' (by simpa using hx) (fun i g hg => ht (i + 1) g hg) (List.all_eq_true.2 fun u hu => List.all_eq_true.1 hw u (by simp only [List.map_cons, DataW.weightsEach]; exact List.mem_append_right _ hu))
    refine ⟨(y, z), ⟨(cs.drop off).take a.sz, cs.drop (off + a.sz), ?_, hK, hK2⟩, ⟨hF, hF2⟩, by simp only [List.map_cons, Rows.uptoBulkAll]; omega⟩
    rw [← List.drop_drop, List.take_append_drop]
theorem opens_struct {α : Type} {d : Kd α} {F : α → Prop} {μ : α → Nat} {fs : Array Field} (ht : P.underlying t = some (.struct fs)) (hc : P.cellsOf t = d.sz) (h1 : OpensF P fs.toList 0 d F μ) : Opens P t d F (fun y => μ y + 1) := by
  refine ⟨?_⟩
  intro H enc w base spare held fuel cs x h hw
  obtain ⟨xs, n, rfl, rfl, hl, hx, hf⟩ := DataW.trod_struct ht h
  simp only [DataW.weights, ht] at hw
  obtain ⟨y, hK, hF, hm⟩ := h1.out (cs := cs) (xs := xs) (by rw [hl, hc]; omega) (by simpa using hx) (fun i f hif => hf i f (by simpa using hif)) hw
  exact ⟨y, hK, hF, by simp only [Rows.uptoBulk]; omega⟩
theorem opens_iso {α β : Type} {d : Kd α} {F : α → Prop} {μ : α → Nat} (f : β → α) (g : α → β) (hg : ∀ y, f (g y) = y) (h1 : Opens P t d F μ) : Opens P t (Kd.iso d f) (fun x => F (f x)) (fun x => μ (f x)) := by
  refine ⟨?_⟩
  intro H enc w base spare held fuel cs x h hw
  obtain ⟨y, hK, hF, hm⟩ := h1.out h hw
  exact ⟨g y, by show d.K w (f (g y)) cs; rw [hg]; exact hK, by show F (f (g y)); rw [hg]; exact hF, by show μ (f (g y)) ≤ _; rw [hg]; exact hm⟩
end

/-- An argument: what it is, what it fits, its bulk, and that it reads again behind the call. -/
theorem arg {P : Program} {H : Type} {enc : TypeId × Value → H} {w : World} {base : Nat} {spare : Nat → Bool} {held : Bool} {ts : List TypeId} {ds : List (DataW H)} {j : Nat} {t : TypeId} {v : Value} {x : DataW H} {p : List MemPlace} {α : Type} {d : Kd α} {F : α → Prop} {μ : α → Nat}
    (ho : Opens P t d F μ) (hsz : (DataW.weightsEach P ts ds).all (· ≤ reachBytes) = true) (ht : ts[j]? = some t) (hd : ds[j]? = some x) (h : DataW.Trod enc P w base spare held t v x p) :
    ∃ y : α, d.K w y v.cells.toList ∧ F y ∧ μ y ≤ Rows.uptoBulk x := by
  obtain ⟨fuel, hf⟩ := h
  exact ho.out hf (List.all_eq_true.2 fun u hu => List.all_eq_true.1 hsz u (DataW.weights_mem_each ht hd u hu))
section
variable {P : Program} {w W : World} {r : Reach} {base : Nat} {t e : TypeId} {v : Value}
theorem val_struct {fs : Array Field} {α : Type} {d : Kd α} {y : α} (ht : P.underlying t = some (.struct fs)) (h : Value.okWide P w r base t v) (hk : d.K W y v.cells.toList) : ∃ cs, v = .agg cs ∧ d.K W y cs.toList := by
  obtain ⟨cs, rfl, _⟩ := okWide_struct ht h
  exact ⟨cs, rfl, hk⟩
end
theorem lt_of_trod {P : Program} {H : Type} {enc : TypeId × Value → H} {w : World} {base : Nat} {spare : Nat → Bool} {held : Bool} {t : TypeId} {v : Value} {x : DataW H} {p : List MemPlace} (h : DataW.Trod enc P w base spare held t v x p) : ∀ y ∈ p, y.block < w.heap.size := by
  obtain ⟨m, hm⟩ := h
  exact DataW.trod_lt m _ _ _ hm
theorem bound {H : Type} {l : List (DataW H)} (hk : Rows.uptoSmall H l = true) : Rows.uptoBulkAll l ≤ 1048576 := of_decide_eq_true hk
end Go.Proofs.Ytiiphlfgdkjjiaa.Read
