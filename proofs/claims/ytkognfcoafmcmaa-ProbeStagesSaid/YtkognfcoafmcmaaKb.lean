/- The contract of the function examples of the statements of chapter 14: it answers true, and changes nothing that was there. -/
import Derived.Test.YtkognfcoafmcmaaKa
namespace Go.Proofs.Ytkognfcoafmcmaa
open Go.RowKit

set_option maxHeartbeats 4000000 in
theorem examples_any (w : World) : Calls Try.prog 7 #[] w fun e w' => e = .returned (.bool true) ∧ Below w.heap.size w w' := by
  have hbw := Below.refl w.heap.size w
  go_enter Try.func7, Try.ntmps7
  go_wp2_with fail
  refine (new_zero 0 1 (by omega) (by omega) (by omega) _).mono ?_
  rintro e1 w1 ⟨rfl, hb1⟩
  replace hbw := hbw.trans (hb1.mono (by have := hbw.size; omega))
  clear hb1
  go_wp2_with fail
  refine (new_yes 2 3 (by omega) (by omega) (by omega) (by omega) _).mono ?_
  rintro e2 w2 ⟨rfl, hb2⟩
  have B1 := (Blk.new w1 _ _).keep hb2
  replace hbw := (hbw.alloc (by have := hbw.size; omega) _).trans (hb2.mono (by have := hbw.size; simp; omega))
  clear hb2
  obtain ⟨c1, f1, z1⟩ := B1.all
  go_wp2_with fail
  refine (start_ok 0 0 0 0 2 3 4 9 10 (by omega) (by omega) (by omega) (by omega) (by omega) (by omega) _).mono ?_
  rintro e3 w3 ⟨rfl, hb3⟩
  have B2 := (Blk.new w2 _ _).keep hb3
  replace hbw := (hbw.alloc (by have := hbw.size; omega) _).trans (hb3.mono (by have := hbw.size; simp; omega))
  clear hb3
  obtain ⟨c2, f2, z2⟩ := B2.all
  go_wp2_with fail
  refine (start_full 1 4 0 9 12 2 3 5 1 10 (by omega) (by omega) (by omega) (by omega) _).mono ?_
  rintro e4 w4 ⟨rfl, hb4⟩
  replace B2 := (B2.alloc _).keep hb4
  clear c2 f2 z2
  have B3 := (Blk.new w3 _ _).keep hb4
  replace hbw := (hbw.alloc (by have := hbw.size; omega) _).trans (hb4.mono (by have := hbw.size; simp; omega))
  clear hb4
  obtain ⟨c2, f2, z2⟩ := B2.all
  obtain ⟨c3, f3, z3⟩ := B3.all
  go_wp2_with fail
  refine (tick_ask 4 0 9 12 2 3 12 (by omega) (by omega) (by omega) (by omega) (by omega) _).mono ?_
  rintro e5 w5 ⟨rfl, hb5⟩
  replace B2 := (B2.alloc _).keep hb5
  clear c2 f2 z2
  replace B3 := (B3.alloc _).keep hb5
  clear c3 f3 z3
  have B4 := (Blk.new w4 _ _).keep hb5
  replace hbw := (hbw.alloc (by have := hbw.size; omega) _).trans (hb5.mono (by have := hbw.size; simp; omega))
  clear hb5
  obtain ⟨c2, f2, z2⟩ := B2.all
  obtain ⟨c3, f3, z3⟩ := B3.all
  obtain ⟨c4, f4, z4⟩ := B4.all
  go_wp2_with fail
  refine (tick_fail 4 0 9 15 2 3 15 (by omega) _).mono ?_
  rintro e6 w6 ⟨rfl, hb6⟩
  replace B2 := (B2.alloc _).keep hb6
  clear c2 f2 z2
  replace B3 := (B3.alloc _).keep hb6
  clear c3 f3 z3
  have B5 := (Blk.new w5 _ _).keep hb6
  replace hbw := (hbw.alloc (by have := hbw.size; omega) _).trans (hb6.mono (by have := hbw.size; simp; omega))
  clear hb6
  obtain ⟨c2, f2, z2⟩ := B2.all
  obtain ⟨c3, f3, z3⟩ := B3.all
  obtain ⟨c5, f5, z5⟩ := B5.all
  go_wp2_with fail
  refine (ack_yes 2 4 0 9 15 2 3 (by omega) _).mono ?_
  rintro e7 w7 ⟨rfl, hb7⟩
  replace B2 := (B2.alloc _).keep hb7
  clear c2 f2 z2
  replace B3 := (B3.alloc _).keep hb7
  clear c3 f3 z3
  replace B5 := (B5.alloc _).keep hb7
  clear c5 f5 z5
  have B6 := (Blk.new w6 _ _).keep hb7
  replace hbw := (hbw.alloc (by have := hbw.size; omega) _).trans (hb7.mono (by have := hbw.size; simp; omega))
  clear hb7
  obtain ⟨c2, f2, z2⟩ := B2.all
  obtain ⟨c3, f3, z3⟩ := B3.all
  obtain ⟨c5, f5, z5⟩ := B5.all
  obtain ⟨c6, f6, z6⟩ := B6.all
  go_wp2_with fail
  refine (ack_no 2 4 0 9 15 2 3 8 (by omega) _).mono ?_
  rintro e8 w8 ⟨rfl, hb8⟩
  replace B2 := (B2.alloc _).keep hb8
  clear c2 f2 z2
  replace B3 := (B3.alloc _).keep hb8
  clear c3 f3 z3
  replace B5 := (B5.alloc _).keep hb8
  clear c5 f5 z5
  replace B6 := (B6.alloc _).keep hb8
  clear c6 f6 z6
  have B7 := (Blk.new w7 _ _).keep hb8
  replace hbw := (hbw.alloc (by have := hbw.size; omega) _).trans (hb8.mono (by have := hbw.size; simp; omega))
  clear hb8
  obtain ⟨c2, f2, z2⟩ := B2.all
  obtain ⟨c3, f3, z3⟩ := B3.all
  obtain ⟨c5, f5, z5⟩ := B5.all
  obtain ⟨c6, f6, z6⟩ := B6.all
  obtain ⟨c7, f7, z7⟩ := B7.all
  go_wp2_with fail
  refine (nack_yes 4 0 9 15 2 3 (by omega) _).mono ?_
  rintro e9 w9 ⟨rfl, hb9⟩
  replace B2 := (B2.alloc _).keep hb9
  clear c2 f2 z2
  replace B3 := (B3.alloc _).keep hb9
  clear c3 f3 z3
  replace B5 := (B5.alloc _).keep hb9
  clear c5 f5 z5
  replace B6 := (B6.alloc _).keep hb9
  clear c6 f6 z6
  replace B7 := (B7.alloc _).keep hb9
  clear c7 f7 z7
  have B8 := (Blk.new w8 _ _).keep hb9
  replace hbw := (hbw.alloc (by have := hbw.size; omega) _).trans (hb9.mono (by have := hbw.size; simp; omega))
  clear hb9
  obtain ⟨c2, f2, z2⟩ := B2.all
  obtain ⟨c3, f3, z3⟩ := B3.all
  obtain ⟨c5, f5, z5⟩ := B5.all
  obtain ⟨c6, f6, z6⟩ := B6.all
  obtain ⟨c7, f7, z7⟩ := B7.all
  obtain ⟨c8, f8, z8⟩ := B8.all
  go_wp2
  go_ret
  exact ⟨rfl, hbw.alloc (by have := hbw.size; omega) _⟩
end Go.Proofs.Ytkognfcoafmcmaa
