/- transeptlaw06's alive answers true; no condition. -/
import Derived.Laws.StructEq
import Derived.Test.YtiiphlfgdkjjiaaZDisksSPlain
import Derived.Test.YtiiphlfgdkjjiaaZDisksWWords
import Derived.Test.YtiiphlfgdkjjiaaZDisksQ2
import Derived.Lib.SliceRun
import Derived.Lib.Hide
import Derived.Test.YtiiphlfgdkjjiaaZDisksQ0
import Derived.Test.YtiiphlfgdkjjiaaZDisksWApart
namespace Go.Proofs.Ytiiphlfgdkjjiaa.Q
open Go.RowKit Go.Proofs.YtiiphlfgdkjjiaaW.PrintWords Go.Proofs.YtiiphlfgdkjjiaaW.PrintLast Go.Proofs.YtiiphlfgdkjjiaaW.PrintMore
open Go.Proofs.Ytiiphlfgdkjjiaa.CrcP
set_option linter.unusedVariables false
set_option linter.unusedSimpArgs false

theorem enc_f {a0 a1 a2 a3 a4 : Nat} (h0 : a0 ≤ 1099511627776) (h1 : a1 ≤ 1099511627776) (h2 : a2 ≤ 1099511627776) (h3 : a3 ≤ 1099511627776) (h4 : a4 ≤ 1099511627776) : super_Encode.f (a0 : Int) (a1 : Int) (a2 : Int) (a3 : Int) (a4 : Int) = some (sect a0 a1 a2 a3 a4, 0) := by
  have hn : ∀ n : Nat, n ≤ 1099511627776 → numOk (n : Int) = true := fun n hn => by
    unfold numOk
    rw [decide_eq_true (by omega), decide_eq_true (by omega)]; rfl
  have hb : blkOk (a0 : Int) (a1 : Int) (a2 : Int) (a3 : Int) (a4 : Int) = true := by
    unfold blkOk
    simp only [List.all_cons, List.all_nil, hn _ h0, hn _ h1, hn _ h2, hn _ h3, hn _ h4, Bool.and_true]
  unfold super_Encode.f
  rw [if_pos hb]
  rfl
theorem dec_f {a0 a1 a2 a3 a4 : Nat} (h0 : a0 ≤ 1099511627776) (h1 : a1 ≤ 1099511627776) (h2 : a2 ≤ 1099511627776) (h3 : a3 ≤ 1099511627776) (h4 : a4 ≤ 1099511627776) : super_Decode.f (sect a0 a1 a2 a3 a4) = some ((a0 : Int), (a1 : Int), (a2 : Int), (a3 : Int), (a4 : Int), 0) := by
  unfold super_Decode.f
  rw [if_pos sect_octs, dec_sect h0 h1 h2 h3 h4]
def transeptlaw06_alive.f : Option Bool := some true

set_option maxHeartbeats 8000000 in
set_option maxRecDepth 100000 in
theorem transeptlaw06_alive.calls (r : Bool) (w : World) (h : transeptlaw06_alive.f = some r) :
    Calls Try.prog 14 #[] w fun e w' => e = .returned (.bool r) ∧ Below w.heap.size w w' := by
  obtain rfl := Option.some.inj h
  clear h
  have hu := Try.underlying33
  go_enter Try.func14, Try.ntmps14
  go_wp2_with fail
  refine (super_Encode.calls 0 0 0 0 0 (sect 0 0 0 0 0) 0 w (enc_f (a0 := 0) (a1 := 0) (a2 := 0) (a3 := 0) (a4 := 0) (by omega) (by omega) (by omega) (by omega) (by omega))).mono ?_
  rintro e w1 ⟨v1, rfl, ho, hb⟩
  obtain ⟨A, c, ev⟩ := Kd.R_slice ho
  rw [sect_length] at ev
  subst ev
  obtain ⟨_, hc, hC⟩ := Kd.R_reads' ho
  have HC := Aside0.mk hC
  have HB := Aside0.mk hb
  have hd := super_Decode.calls A c (sect 0 0 0 0 0) 0 0 0 0 0 0 w1 hC (by rw [sect_length]; exact hc) (dec_f (a0 := 0) (a1 := 0) (a2 := 0) (a3 := 0) (a4 := 0) (by omega) (by omega) (by omega) (by omega) (by omega))
  rw [sect_length] at hd
  have HD := Aside0.mk hd
  clear ho hb hC hd
  go_wp2_with fail
  refine HD.out.mono ?_
  rintro e w2 ⟨rfl, hb2⟩
  have HC2 := Aside0.mk (Kd.C_below HC.out hb2)
  have HB2 := Aside0.mk (below_step HB.out hb2)
  clear hb2 HD HC HB
  go_wp2_with fail
  refine (transeptlaw06_num.calls 0 0 _ rfl).mono ?_
  rintro e w3 ⟨rfl, ⟨⟨m3, rfl⟩⟩⟩
  go_wp2_with fail
  refine (transeptlaw06_num.calls 0 0 _ rfl).mono ?_
  rintro e w4 ⟨rfl, ⟨⟨m4, rfl⟩⟩⟩
  obtain ⟨W4, hW4⟩ : ∃ W4, W4 = ((w2.alloc (.cells #[.int .i64 0, .int .i64 0, .int .i64 0, .int .i64 0, .int .i64 0] 33)).drewN m3).drewN m4 := ⟨_, rfl⟩
  have hb4 : Below w2.heap.size w2 W4 := by rw [hW4]; exact pw_below_drewN (pw_below_drewN (below_alloc (Below.refl _ _) _) _) _
  have BK := Aside0.mk (show W4.heap[w2.heap.size]? = some (.cells #[.int .i64 0, .int .i64 0, .int .i64 0, .int .i64 0, .int .i64 0] 33 (0, 0)) from by rw [hW4]; exact blk_new _ _)
  have HB4 := Aside0.mk (below_step HB2.out hb4)
  obtain ⟨i0, hi0, _, hsz0, _⟩ := info_parts info5
  have hcut := cut_to (P := Try.prog) 50 5 .i64 Try.underlying50 hi0 A 64 c 4 (by omega) (by omega) hc
  have hC4 := Kd.C_take (m := 4) (Kd.C_below HC2.out hb4) (by rw [sect_length]; decide)
  rw [sect_mark] at hC4
  have hstr : (convert 50 9 (.slice A 4 c)).run Try.prog W4 = .ok (.string (strOfNums markL)) W4 := Kd.C_string Try.underlying50 Try.underlying5 Try.underlying9 hC4
  have hs1 : ((strOfNums markL).toList == ([116, 115, 98, 49] : List UInt8)) = true := by rw [Lib.strOfNums_toList]; decide
  have c0 := (blk_cell BK.out 0).trans rfl
  have c1 := (blk_cell BK.out 1).trans rfl
  have c2 := (blk_cell BK.out 2).trans rfl
  have c3 := (blk_cell BK.out 3).trans rfl
  have c4 := (blk_cell BK.out 4).trans rfl
  rw [← hW4]
  clear hW4 hb4 hC4
  go_wp2_with fail
  go_ret
  exact ⟨rfl, HB4.out⟩
end Go.Proofs.Ytiiphlfgdkjjiaa.Q
namespace Go.Proofs.Ytiiphlfgdkjjiaa.Q
open Go.RowKit Go.Proofs.YtiiphlfgdkjjiaaW.PrintWords Go.Proofs.YtiiphlfgdkjjiaaW.PrintLast Go.Proofs.YtiiphlfgdkjjiaaW.PrintMore

set_option maxHeartbeats 1000000 in
set_option maxRecDepth 100000 in
theorem clone_any (A0 : Option Addr) (c0 : Nat) (l0 : List Int) (w : World) (hr0 : Kd.C (Kd.int .u8) w A0 l0.length l0) (hl : l0.length < 140737488355328) :
    Calls Try.prog 58 #[.slice A0 l0.length c0] w fun e w' => ∃ v0_ : Value, e = .returned (v0_) ∧ Kd.R (Kd.int .u8) 5 w' w.heap.size (fun _ => True) v0_ l0 ∧ Below w.heap.size w w' := by
  have HR := Lib.hid hr0
  clear hr0
  have he := fun (w : World) (a : Option Addr) (n c n' c' : Nat) => Lib.run_eql_slice_nil (P := Try.prog) w 50 5 a n c n' c' Try.underlying50
  cases A0 with
  | none =>
    have h0 : l0.length = 0 := by
      rcases Nat.eq_zero_or_pos l0.length with h | h
      · exact h
      · obtain ⟨ad, hA, _⟩ := HR.out.2.2 h
        cases hA
    have hnil : l0 = [] := List.length_eq_zero_iff.1 h0
    subst hnil
    go_enter Try.func58, Try.ntmps58
    go_wp2
    go_ret
    exact ⟨_, rfl, Kd.R_nil _ _ _ _ _, Below.refl _ _⟩
  | some ad =>
    go_enter Try.func58, Try.ntmps58
    go_wp2_with (first | ((with_reducible refine gate_dst (N := 5) rfl ?_); refine Kd.R_lit (Kd.int .u8) (w0 := w) w.heap.size 5 ?hg (N := 5) ?hd (xs := ([] : List Int)) (inner := []) (ok := fun _ => True) (okp := fun _ => True) ?hr (Reps.none _ _) (fun _ hk => hk) trivial (Below.refl _ _) (Nat.le_refl _) (by simp) ?_; (case hd => rfl); (case hg => rfl); (case hr => first | (go_simp; done) | (go_simp; rfl)); intro v1 w1 ho hb _ _; have HO := Lib.hid ho; have HB := Lib.hid hb; clear ho hb; obtain ⟨Ao, co, eo⟩ := Kd.R_slice HO.out; subst eo) | (at_builtin; refine Kd.R_append_rows (Kd.int .u8) (w0 := w) w.heap.size rfl (.tmp 5) (.tmp 6) 50 5 (.int .u8 0) 1 rfl Try.underlying50 info5 rfl (by decide) (by omega) _ ([] : List Int) l0 _ _ _ (fun _ => True) (fun _ => False) rfl rfl HO.out (Kd.C_below HR.out HB.out) (fun _ _ h => h) (fun _ h => h.elim) (fun _ _ => trivial) HB.out HB.out.size (by simp only [List.length_nil]; omega) ?_; intro v2 w2 ho2 hb2 _ _; have HO2 := Lib.hid ho2; have HB2 := Lib.hid hb2; clear ho2 hb2))
    go_ret
    exact ⟨_, rfl, HO2.out, HB2.out⟩
end Go.Proofs.Ytiiphlfgdkjjiaa.Q
namespace Go.Proofs.Ytiiphlfgdkjjiaa.Q
open Go.RowKit Go.Proofs.YtiiphlfgdkjjiaaW.PrintWords Go.Proofs.YtiiphlfgdkjjiaaW.PrintLast

/-- An element that is done is of the call's own, its blocks are those that f gives to it; one that isn't is read in w0. -/
def half {α : Type} (f : Nat → Nat) (w0 : World) (d : Kd α) : Kd (α × Nat × Bool) where
  sz := d.sz
  E := d.E
  K := fun w x cs => if x.2.2 = true then d.K w x.1 cs else d.K w0 x.1 cs
  M := fun w base ok x cs => if x.2.2 = true then d.M w base (fun k => ok k ∧ f k = x.2.1) x.1 cs else d.K w0 x.1 cs
  K_len := by
    intro w x cs h
    split at h
    · exact d.K_len h
    · exact d.K_len h
  K_one := by
    intro w x cs h
    split at h
    · exact d.K_one h
    · exact d.K_one h
  K_below := by
    intro w w1 x cs hb h
    split at h
    · rename_i hx; rw [if_pos hx]; exact d.K_below hb h
    · rename_i hx; rw [if_neg hx]; exact h
  K_of_M := by
    intro w base ok x cs h
    split at h
    · rename_i hx; rw [if_pos hx]; exact d.K_of_M h
    · rename_i hx; rw [if_neg hx]; exact h
  M_mono := by
    intro w base ok ok' x cs hok h
    split at h
    · rename_i hx; rw [if_pos hx]; exact d.M_mono (fun k hk => ⟨hok k hk.1, hk.2⟩) h
    · rename_i hx; rw [if_neg hx]; exact h
  M_bound := by
    intro w base ok x cs h
    split at h
    · rename_i hx; rw [if_pos hx]; exact d.M_mono (fun _ hk => ⟨⟨hk.1.1, hk.2⟩, hk.1.2⟩) (d.M_bound h)
    · rename_i hx; rw [if_neg hx]; exact h
  M_move := by
    intro w w1 base ok x cs hm h
    split at h
    · rename_i hx; rw [if_pos hx]; exact d.M_move (fun k hk => hm k hk.1) h
    · rename_i hx; rw [if_neg hx]; exact h
  M_lower := by
    intro w base base' ok x cs hb h
    split at h
    · rename_i hx; rw [if_pos hx]; exact d.M_lower hb h
    · rename_i hx; rw [if_neg hx]; exact h

/-- The elements, the first k done. -/
def marks {α : Type} (xs : List α) (k : Nat) : List (α × Nat × Bool) := xs.zipIdx.map fun p => (p.1, p.2, decide (p.2 < k))
section
variable {α : Type} {d : Kd α} {e base g n cap : Nat} {ok : Nat → Prop} {w0 W W2 : World} {v : Value} {xs : List α} {k : Nat} {f : Nat → Nat}
theorem marks_length : (marks xs k).length = xs.length := by simp [marks]
theorem marks_at {j : Nat} {p : α × Nat × Bool} (h : (marks xs k)[j]? = some p) : ∃ x, xs[j]? = some x ∧ p = (x, j, decide (j < k)) := by
  unfold marks at h
  rw [List.getElem?_map, List.getElem?_zipIdx] at h
  cases hx : xs[j]? with
  | none => rw [hx] at h; simp at h
  | some x =>
    rw [hx] at h
    refine ⟨x, rfl, ?_⟩
    simpa using h.symm
theorem marks_get {j : Nat} (hj : j < xs.length) : (marks xs k)[j]? = some (xs[j], j, decide (j < k)) := by
  unfold marks
  rw [List.getElem?_map, List.getElem?_zipIdx, List.getElem?_eq_getElem hj]
  simp
theorem marks_set (hk : k < xs.length) : (marks xs k).set k (xs[k], k, true) = marks xs (k + 1) := by
  apply List.ext_getElem?
  intro j
  by_cases hj : j < xs.length
  · rw [marks_get hj]
    by_cases hjk : k = j
    · subst hjk
      rw [List.getElem?_set_self (by rw [marks_length]; exact hk)]
      simp
    · rw [List.getElem?_set_ne hjk, marks_get hj]
      congr 3
      simp; omega
  · rw [List.getElem?_eq_none (by rw [List.length_set, marks_length]; omega), List.getElem?_eq_none (by rw [marks_length]; omega)]
theorem half_M_done {x : α} {j : Nat} {b : Bool} {cs : List Value} (hb : b = true) : (half f w0 d).M W base ok (x, j, b) cs = d.M W base (fun k => ok k ∧ f k = j) x cs := by subst hb; rfl
theorem half_M_not {x : α} {j : Nat} {b : Bool} {cs : List Value} (hb : b = false) : (half f w0 d).M W base ok (x, j, b) cs = d.K w0 x cs := by subst hb; rfl
theorem half_start (f : Nat → Nat) (h : (Kd.fixed d w0).R e W base ok v xs) : (half f w0 d).R e W base ok v (marks xs 0) := by
  obtain ⟨h0, inner, ho, hr⟩ := h
  refine ⟨h0, inner, by rw [marks_length]; exact ho, by rw [marks_length]; exact hr.1, fun j p hp => ?_⟩
  obtain ⟨x, hx, rfl⟩ := marks_at hp
  rw [half_M_not (by simp)]
  exact hr.2 j x hx
theorem half_done (h : (half f w0 d).R e W base ok v (marks xs xs.length)) : Kd.S d e W base ok v xs := by
  obtain ⟨h0, inner, ho, hr⟩ := h
  refine ⟨f, h0, inner, by rw [List.length_zipIdx, ← marks_length (xs := xs) (k := xs.length)]; exact ho, by rw [List.length_zipIdx, ← marks_length (xs := xs) (k := xs.length)]; exact hr.1, fun j p hp => ?_⟩
  rw [List.getElem?_zipIdx] at hp
  cases hx : xs[j]? with
  | none => rw [hx] at hp; simp at hp
  | some x =>
    rw [hx] at hp
    have hp' : (x, j) = p := by simpa using hp
    subst hp'
    have hj := (List.getElem?_eq_some_iff.1 hx).1
    have hm := hr.2 j _ (marks_get hj)
    rw [half_M_done (by simp; exact hj)] at hm
    have hxx : xs[j] = x := by rw [List.getElem?_eq_getElem hj] at hx; exact Option.some.inj hx
    rw [hxx] at hm
    exact hm
/-- The element at hand, read. -/
theorem half_read (h : (half f w0 d).R e W base ok (.slice (some ⟨g, 0, none⟩) n cap) (marks xs k)) (hn : n = xs.length) (hk : k < xs.length) :
    ∃ c, c.length = d.sz ∧ d.K w0 xs[k] c ∧ (∀ j u, c[j]? = some u → W.cell? ⟨g, k * d.sz + j, none⟩ = some u) ∧ ∀ j, W.frozen? ⟨g, k * d.sz + j, none⟩ = false := by
  obtain ⟨c, hl, hM, hc, hf⟩ := Kd.R_elem h (xs[k], k, true) (k : Int) (by omega) (by omega)
  rw [Int.toNat_natCast, List.getD_eq_getElem?_getD, marks_get hk] at hM
  rw [Option.getD_some, half_M_not (by simp)] at hM
  exact ⟨c, hl, hM, hc, hf⟩
/-- The element at hand, done: its new blocks are all younger than W. -/
theorem half_step (h : (half f w0 d).R e W base ok (.slice (some ⟨g, 0, none⟩) n cap) (marks xs k)) (hn : n = xs.length) (hk : k < xs.length) (hb : Below W.heap.size W W2) (hbase : base ≤ W.heap.size) {c seg : List Value} {j : Nat}
    (hcl : c.length = d.sz) (hcc : ∀ j u, c[j]? = some u → W.cell? ⟨g, k * d.sz + j, none⟩ = some u) (hj : j + seg.length ≤ d.sz)
    (hM : d.M W2 W.heap.size (fun b => ok b) xs[k] (c.take j ++ seg ++ c.drop (j + seg.length))) :
    ∃ f', (half f' w0 d).R e (W2.setCells g (k * d.sz + j) seg) base ok (.slice (some ⟨g, 0, none⟩) n cap) (marks xs (k + 1)) ∧ W2.grownBy (W2.setCells g (k * d.sz + j) seg) (some g) := by
  have hg : g < W.heap.size := by
    obtain ⟨_, inner, ho, _⟩ := h
    exact own_lt ho g (by simp [Value.ownBlock])
  let f' : Nat → Nat := fun b => if b < W.heap.size then f b else k
  have h1 : (half f' w0 d).R e W base ok (.slice (some ⟨g, 0, none⟩) n cap) (marks xs k) := by
    obtain ⟨h0, inner, ho, hr⟩ := h
    refine ⟨h0, inner, ho, hr.imp_ (fun p cs hp => ?_)⟩
    have hp' : if p.2.2 = true then d.M W base (fun b => (ok b ∧ some b ≠ (Value.slice (some ⟨g, 0, none⟩) n cap).ownBlock) ∧ f b = p.2.1) p.1 cs else d.K w0 p.1 cs := hp
    show if p.2.2 = true then d.M W base (fun b => (ok b ∧ some b ≠ (Value.slice (some ⟨g, 0, none⟩) n cap).ownBlock) ∧ f' b = p.2.1) p.1 cs else d.K w0 p.1 cs
    split
    · rename_i ht
      rw [if_pos ht] at hp'
      refine d.M_mono (fun b hb => ⟨hb.1.1, ?_⟩) (d.M_bound hp')
      show (if b < W.heap.size then f b else k) = p.2.1
      rw [if_pos hb.2.2.1]
      exact hb.1.2
    · rename_i ht
      rw [if_neg ht] at hp'
      exact hp'
  have h2 := Kd.R_below h1 hb
  have hcc2 : ∀ j u, c[j]? = some u → W2.cell? ⟨g, (k : Int).toNat * d.sz + j, none⟩ = some u := fun j u hu => by
    rw [Int.toNat_natCast]
    exact pw_cell_below hb (hcc j u hu)
  have hM2 : (half f' w0 d).M W2 base (fun b => ok b ∧ b ≠ g) (xs[k], k, true) (c.take j ++ seg ++ c.drop (j + seg.length)) := by
    rw [half_M_done rfl]
    refine d.M_lower hbase (d.M_mono (fun b hb => ⟨⟨hb.1, by have := hb.2.1; omega⟩, ?_⟩) (d.M_bound hM))
    show (if b < W.heap.size then f b else k) = k
    rw [if_neg (by have := hb.2.1; omega)]
  have h3 := Kd.R_seg h2 (k : Int) (by omega) (by omega) hcl hcc2 hj hM2 (fun _ hk => hk)
  rw [Int.toNat_natCast, marks_set hk] at h3
  exact ⟨f', h3⟩
end
end Go.Proofs.Ytiiphlfgdkjjiaa.Q
