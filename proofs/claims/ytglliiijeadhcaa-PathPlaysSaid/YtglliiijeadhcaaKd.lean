/- The contract of the function examples of the statements of chapter 18: it answers true, and changes nothing that was there. -/
import Derived.Test.YtglliiijeadhcaaKc
namespace Go.Proofs.Ytglliiijeadhcaa
open Go.RowKit

set_option maxRecDepth 100000 in
set_option maxHeartbeats 4000000 in
theorem examples_any (w : World) : Calls Try.prog 9 #[] w fun e w' => e = .returned (.bool true) ∧ Below w.heap.size w w' := by
  have hbw := Below.refl w.heap.size w
  have N : Num 2 1 5 20 := ⟨by omega, by omega, by omega, by omega, by omega, by omega, by omega, by omega⟩
  have hN := Lib.hid N
  clear N
  go_enter Try.func9, Try.ntmps9
  go_wp2_with fail
  refine (new_tries (tr := 0) (ba := 1) (ke := 1) (ho := 1) _ (by omega)).mono ?_
  rintro e1 w1 ⟨rfl, rfl⟩
  go_wp2_with fail
  refine (new_ok (tr := 2) (ba := 1) (ke := 5) (ho := 20) hN.out _).mono ?_
  rintro e2 w2 ⟨rfl, hbw, T⟩
  have Hg : w.heap.size ≤ w.heap.size := Nat.le_refl _
  go_wp2_with fail
  refine (want_ok 3 0 _ (T.alloc _) (by omega) (by omega) (by omega) rfl).mono ?_
  rintro e3 w3 ⟨rfl, T3, hg3⟩
  have ng0 := Nat.ne_of_gt T.lt
  have B0 := (Blk.new w2 _ _).only hg3 ng0
  clear T
  have T := T3
  clear T3
  replace hbw := (hbw.alloc hbw.size _).grown hg3 (by have := hbw.size; simp; omega) (fun _ e => by injection e with e; rw [← e]; exact Hg)
  clear hg3
  obtain ⟨c0, f0, z0⟩ := B0.all
  go_wp2_with fail
  refine (want_old 3 0 _ T (by omega) (by omega) (by omega) (by decide)).mono ?_
  rintro e4 w4 ⟨rfl, rfl⟩
  go_wp2_with fail
  refine (due_send hN.out 3 ⟨((3 : Nat) : Int), 2, 0, 0, 0, 0, 0⟩ ⟨((3 : Nat) : Int), 2, 1, 0, 0, 1, 0⟩ 1 0 _ T (by omega) (by omega) (by omega) (by decide) (by decide) (by rfl) (by decide)).mono ?_
  rintro e5 w5 ⟨p1, q1, cur1, rfl, T5, hg5, hr1, h11, B1, r01, r11⟩
  clear c0 f0 z0
  replace B0 := B0.only hg5 ng0
  have ng1 : p1 ≠ _ := Nat.ne_of_gt (Nat.lt_of_lt_of_le T.lt hr1)
  clear T
  have T := T5
  clear T5
  replace hbw := hbw.grown hg5 hbw.size (fun _ e => by injection e with e; rw [← e]; exact Hg)
  clear hg5
  clear hr1
  obtain ⟨c0, f0, z0⟩ := B0.all
  obtain ⟨c1, f1, z1⟩ := B1.all
  go_wp2_with fail
  refine (due_send hN.out 3 ⟨((3 : Nat) : Int), 2, 1, 0, 0, 1, 0⟩ ⟨((3 : Nat) : Int), 2, 2, 0, 0, 3, 0⟩ 1 1 _ T (by omega) (by omega) (by omega) (by decide) (by decide) (by rfl) (by decide)).mono ?_
  rintro e6 w6 ⟨p2, q2, cur2, rfl, T6, hg6, hr2, h12, B2, r02, r12⟩
  clear c0 f0 z0
  clear c1 f1 z1
  replace B0 := B0.only hg6 ng0
  replace B1 := B1.only hg6 ng1
  have ng2 : p2 ≠ _ := Nat.ne_of_gt (Nat.lt_of_lt_of_le T.lt hr2)
  clear T
  have T := T6
  clear T6
  replace hbw := hbw.grown hg6 hbw.size (fun _ e => by injection e with e; rw [← e]; exact Hg)
  clear hg6
  clear hr2
  obtain ⟨c0, f0, z0⟩ := B0.all
  obtain ⟨c1, f1, z1⟩ := B1.all
  obtain ⟨c2, f2, z2⟩ := B2.all
  clear c2 f2 z2 B2
  go_wp2_with fail
  refine (due_still hN.out 3 ⟨((3 : Nat) : Int), 2, 2, 0, 0, 3, 0⟩ ⟨((3 : Nat) : Int), 1, 2, 0, 0, 23, 0⟩ 0 3 _ T (by omega) (by omega) (by omega) (by decide) (by decide) (by rfl) (by decide)).mono ?_
  rintro e7 w7 ⟨A3, C3, rfl, T7, hg7⟩
  clear c0 f0 z0
  clear c1 f1 z1
  replace B0 := B0.only hg7 ng0
  replace B1 := B1.only hg7 ng1
  clear T
  have T := T7
  clear T7
  replace hbw := hbw.grown hg7 hbw.size (fun _ e => by injection e with e; rw [← e]; exact Hg)
  clear hg7
  obtain ⟨c0, f0, z0⟩ := B0.all
  obtain ⟨c1, f1, z1⟩ := B1.all
  go_wp2_with fail
  refine (of_yes 3 ⟨((3 : Nat) : Int), 1, 2, 0, 0, 23, 0⟩ _ T (by omega) (by omega) rfl (by decide)).mono ?_
  rintro e8 w8 ⟨rfl, hb8⟩
  clear c0 f0 z0
  clear c1 f1 z1
  replace B0 := B0.keep hb8
  replace B1 := B1.keep hb8
  replace T := T.keep hb8
  replace hbw := hbw.trans (hb8.mono hbw.size)
  clear hb8
  obtain ⟨c0, f0, z0⟩ := B0.all
  obtain ⟨c1, f1, z1⟩ := B1.all
  go_wp2_with fail
  refine (open_ok 3 5 5 10 _ (T.alloc _) (by omega) (by omega) (by omega) (by omega) rfl (by omega) (by omega) (by omega) (by omega)).mono ?_
  rintro e9 w9 ⟨rfl, T9, hg9⟩
  clear c0 f0 z0
  clear c1 f1 z1
  have n0_4 := Nat.ne_of_lt B0.lt
  have n4_0 := Ne.symm n0_4
  have n1_4 := Nat.ne_of_lt B1.lt
  have n4_1 := Ne.symm n1_4
  have ng4 := Nat.ne_of_gt T.lt
  replace B0 := (B0.alloc _).only hg9 ng0
  replace B1 := (B1.alloc _).only hg9 ng1
  have B4 := (Blk.new w8 _ _).only hg9 ng4
  clear T
  have T := T9
  clear T9
  replace hbw := (hbw.alloc hbw.size _).grown hg9 (by have := hbw.size; simp; omega) (fun _ e => by injection e with e; rw [← e]; exact Hg)
  clear hg9
  obtain ⟨c0, f0, z0⟩ := B0.all
  obtain ⟨c1, f1, z1⟩ := B1.all
  obtain ⟨c4, f4, z4⟩ := B4.all
  rw [upd_upd] at T
  go_wp2_with fail
  refine (due_send hN.out 3 ⟨((3 : Nat) : Int), 3, 0, 5, 5, 15, 30⟩ ⟨((3 : Nat) : Int), 3, 0, 5, 5, 20, 30⟩ 2 15 _ T (by omega) (by omega) (by omega) (by decide) (by decide) (by rfl) (by decide)).mono ?_
  rintro e10 w10 ⟨p5, q5, cur5, rfl, T10, hg10, hr5, h15, B5, r05, r15⟩
  clear c0 f0 z0
  clear c1 f1 z1
  clear c4 f4 z4
  replace B0 := B0.only hg10 ng0
  replace B1 := B1.only hg10 ng1
  replace B4 := B4.only hg10 ng4
  have ng5 : p5 ≠ _ := Nat.ne_of_gt (Nat.lt_of_lt_of_le T.lt hr5)
  clear T
  have T := T10
  clear T10
  replace hbw := hbw.grown hg10 hbw.size (fun _ e => by injection e with e; rw [← e]; exact Hg)
  clear hg10
  clear hr5
  obtain ⟨c0, f0, z0⟩ := B0.all
  obtain ⟨c1, f1, z1⟩ := B1.all
  obtain ⟨c4, f4, z4⟩ := B4.all
  obtain ⟨c5, f5, z5⟩ := B5.all
  go_wp2_with fail
  refine (heard_yes 3 ⟨((3 : Nat) : Int), 3, 0, 5, 5, 20, 30⟩ 16 _ T (by omega) (by omega) (by omega) (by omega) rfl rfl (by omega) (by omega)).mono ?_
  rintro e11 w11 ⟨rfl, T11, hg11⟩
  clear c0 f0 z0
  clear c1 f1 z1
  clear c4 f4 z4
  clear c5 f5 z5
  replace B0 := B0.only hg11 ng0
  replace B1 := B1.only hg11 ng1
  replace B4 := B4.only hg11 ng4
  replace B5 := B5.only hg11 ng5
  clear T
  have T := T11
  clear T11
  replace hbw := hbw.grown hg11 hbw.size (fun _ e => by injection e with e; rw [← e]; exact Hg)
  clear hg11
  obtain ⟨c0, f0, z0⟩ := B0.all
  obtain ⟨c1, f1, z1⟩ := B1.all
  obtain ⟨c4, f4, z4⟩ := B4.all
  obtain ⟨c5, f5, z5⟩ := B5.all
  rw [upd_upd] at T
  go_wp2_with fail
  refine (lost_yes 3 _ T (by omega) (by omega) (by decide)).mono ?_
  rintro e12 w12 ⟨rfl, T12, hg12⟩
  clear c0 f0 z0
  clear c1 f1 z1
  clear c4 f4 z4
  clear c5 f5 z5
  replace B0 := B0.only hg12 ng0
  replace B1 := B1.only hg12 ng1
  replace B4 := B4.only hg12 ng4
  replace B5 := B5.only hg12 ng5
  clear T
  have T := T12
  clear T12
  replace hbw := hbw.grown hg12 hbw.size (fun _ e => by injection e with e; rw [← e]; exact Hg)
  clear hg12
  obtain ⟨c0, f0, z0⟩ := B0.all
  obtain ⟨c1, f1, z1⟩ := B1.all
  obtain ⟨c4, f4, z4⟩ := B4.all
  obtain ⟨c5, f5, z5⟩ := B5.all
  rw [upd_upd, upd_zero] at T
  go_wp2_with fail
  refine (lost_none 3 _ T (by omega) (by omega) rfl).mono ?_
  rintro e13 w13 ⟨rfl, hb13⟩
  clear c0 f0 z0
  clear c1 f1 z1
  clear c4 f4 z4
  clear c5 f5 z5
  replace B0 := B0.keep hb13
  replace B1 := B1.keep hb13
  replace B4 := B4.keep hb13
  replace B5 := B5.keep hb13
  replace T := T.keep hb13
  replace hbw := hbw.trans (hb13.mono hbw.size)
  clear hb13
  obtain ⟨c0, f0, z0⟩ := B0.all
  obtain ⟨c1, f1, z1⟩ := B1.all
  obtain ⟨c4, f4, z4⟩ := B4.all
  obtain ⟨c5, f5, z5⟩ := B5.all
  go_wp2_with fail
  refine (all_none _ T).mono ?_
  rintro e14 w14 ⟨A9, C9, rfl, hb14⟩
  clear c0 f0 z0
  clear c1 f1 z1
  clear c4 f4 z4
  clear c5 f5 z5
  replace B0 := B0.keep hb14
  replace B1 := B1.keep hb14
  replace B4 := B4.keep hb14
  replace B5 := B5.keep hb14
  replace T := T.keep hb14
  replace hbw := hbw.trans (hb14.mono hbw.size)
  clear hb14
  obtain ⟨c0, f0, z0⟩ := B0.all
  obtain ⟨c1, f1, z1⟩ := B1.all
  obtain ⟨c4, f4, z4⟩ := B4.all
  obtain ⟨c5, f5, z5⟩ := B5.all
  go_wp2
  go_ret
  exact ⟨rfl, hbw⟩
end Go.Proofs.Ytglliiijeadhcaa
