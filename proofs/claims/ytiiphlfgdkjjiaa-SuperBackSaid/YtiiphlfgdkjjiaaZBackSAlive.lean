/- transeptlaw06's alive answers true; no condition. -/
import Derived.Laws.StructEq
import Derived.Test.YtiiphlfgdkjjiaaZBackSPlain
import Derived.Test.YtiiphlfgdkjjiaaZBackWWords
import Derived.Test.YtiiphlfgdkjjiaaZBackQ2
namespace Go.Proofs.Ytiiphlfgdkjjiaa.Q
open Go.RowKit Go.Proofs.YtiiphlfgdkjjiaaW.PrintWords Go.Proofs.YtiiphlfgdkjjiaaW.PrintLast Go.Proofs.YtiiphlfgdkjjiaaW.PrintMore
open Go.Proofs.Ytiiphlfgdkjjiaa.CrcP
set_option linter.unusedVariables false
set_option linter.unusedSimpArgs false

theorem enc_f {a0 a1 a2 a3 a4 : Nat} (h0 : a0 ≤ 1099511627776) (h1 : a1 ≤ 1099511627776) (h2 : a2 ≤ 1099511627776) (h3 : a3 ≤ 1099511627776) (h4 : a4 ≤ 1099511627776) : super_Encode.f (a0 : Int) (a1 : Int) (a2 : Int) (a3 : Int) (a4 : Int) = some (sect a0 a1 a2 a3 a4, 0) := by
  have hn : ∀ n : Nat, n ≤ 1099511627776 → numOk (n : Int) = true := fun n hn => by
    unfold numOk
    rw [decide_eq_true (by omega), decide_eq_true (by omega)]; rfl
  have hb : blkOk (a0 : Int) (a1 : Int) (a2 : Int) (a3 : Int) (a4 : Int) = true := by
    unfold blkOk
    simp only [List.all_cons, List.all_nil, hn _ h0, hn _ h1, hn _ h2, hn _ h3, hn _ h4, Bool.and_true]
  unfold super_Encode.f
  rw [if_pos hb]
  rfl
theorem dec_f {a0 a1 a2 a3 a4 : Nat} (h0 : a0 ≤ 1099511627776) (h1 : a1 ≤ 1099511627776) (h2 : a2 ≤ 1099511627776) (h3 : a3 ≤ 1099511627776) (h4 : a4 ≤ 1099511627776) : super_Decode.f (sect a0 a1 a2 a3 a4) = some ((a0 : Int), (a1 : Int), (a2 : Int), (a3 : Int), (a4 : Int), 0) := by
  unfold super_Decode.f
  rw [if_pos sect_octs, dec_sect h0 h1 h2 h3 h4]
def transeptlaw06_alive.f : Option Bool := some true

set_option maxHeartbeats 8000000 in
set_option maxRecDepth 100000 in
theorem transeptlaw06_alive.calls (r : Bool) (w : World) (h : transeptlaw06_alive.f = some r) :
    Calls Try.prog 14 #[] w fun e w' => e = .returned (.bool r) ∧ Below w.heap.size w w' := by
  obtain rfl := Option.some.inj h
  clear h
  have hu := Try.underlying33
  go_enter Try.func14, Try.ntmps14
  go_wp2_with fail
  refine (super_Encode.calls 0 0 0 0 0 (sect 0 0 0 0 0) 0 w (enc_f (a0 := 0) (a1 := 0) (a2 := 0) (a3 := 0) (a4 := 0) (by omega) (by omega) (by omega) (by omega) (by omega))).mono ?_
  rintro e w1 ⟨v1, rfl, ho, hb⟩
  obtain ⟨A, c, ev⟩ := Kd.R_slice ho
  rw [sect_length] at ev
  subst ev
  obtain ⟨_, hc, hC⟩ := Kd.R_reads' ho
  have HC := Aside0.mk hC
  have HB := Aside0.mk hb
  have hd := super_Decode.calls A c (sect 0 0 0 0 0) 0 0 0 0 0 0 w1 hC (by rw [sect_length]; exact hc) (dec_f (a0 := 0) (a1 := 0) (a2 := 0) (a3 := 0) (a4 := 0) (by omega) (by omega) (by omega) (by omega) (by omega))
  rw [sect_length] at hd
  have HD := Aside0.mk hd
  clear ho hb hC hd
  go_wp2_with fail
  refine HD.out.mono ?_
  rintro e w2 ⟨rfl, hb2⟩
  have HC2 := Aside0.mk (Kd.C_below HC.out hb2)
  have HB2 := Aside0.mk (below_step HB.out hb2)
  clear hb2 HD HC HB
  go_wp2_with fail
  refine (transeptlaw06_num.calls 0 0 _ rfl).mono ?_
  rintro e w3 ⟨rfl, ⟨⟨m3, rfl⟩⟩⟩
  go_wp2_with fail
  refine (transeptlaw06_num.calls 0 0 _ rfl).mono ?_
  rintro e w4 ⟨rfl, ⟨⟨m4, rfl⟩⟩⟩
  obtain ⟨W4, hW4⟩ : ∃ W4, W4 = ((w2.alloc (.cells #[.int .i64 0, .int .i64 0, .int .i64 0, .int .i64 0, .int .i64 0] 33)).drewN m3).drewN m4 := ⟨_, rfl⟩
  have hb4 : Below w2.heap.size w2 W4 := by rw [hW4]; exact pw_below_drewN (pw_below_drewN (below_alloc (Below.refl _ _) _) _) _
  have BK := Aside0.mk (show W4.heap[w2.heap.size]? = some (.cells #[.int .i64 0, .int .i64 0, .int .i64 0, .int .i64 0, .int .i64 0] 33 (0, 0)) from by rw [hW4]; exact blk_new _ _)
  have HB4 := Aside0.mk (below_step HB2.out hb4)
  obtain ⟨i0, hi0, _, hsz0, _⟩ := info_parts info5
  have hcut := cut_to (P := Try.prog) 50 5 .i64 Try.underlying50 hi0 A 64 c 4 (by omega) (by omega) hc
  have hC4 := Kd.C_take (m := 4) (Kd.C_below HC2.out hb4) (by rw [sect_length]; decide)
  rw [sect_mark] at hC4
  have hstr : (convert 50 9 (.slice A 4 c)).run Try.prog W4 = .ok (.string (strOfNums markL)) W4 := Kd.C_string Try.underlying50 Try.underlying5 Try.underlying9 hC4
  have hs1 : ((strOfNums markL).toList == ([116, 115, 98, 49] : List UInt8)) = true := by rw [Lib.strOfNums_toList]; decide
  have c0 := (blk_cell BK.out 0).trans rfl
  have c1 := (blk_cell BK.out 1).trans rfl
  have c2 := (blk_cell BK.out 2).trans rfl
  have c3 := (blk_cell BK.out 3).trans rfl
  have c4 := (blk_cell BK.out 4).trans rfl
  rw [← hW4]
  clear hW4 hb4 hC4
  go_wp2_with fail
  go_ret
  exact ⟨rfl, HB4.out⟩
end Go.Proofs.Ytiiphlfgdkjjiaa.Q
