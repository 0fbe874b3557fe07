/- What PathOpens does: at all arguments it answers true, and changes nothing that was there. -/
import Derived.Test.YtglliiijeadhcaaKd
namespace Go.Proofs.Ytglliiijeadhcaa
open Go.RowKit
set_option linter.unusedVariables false
theorem none9 {x : Int} (h : 1 ≤ x) : noneB x 9 = false := by simp [noneB]; omega

set_option maxRecDepth 100000 in
set_option maxHeartbeats 8000000 in
theorem po_eq (a b n x : Int) (a1 : 0 ≤ a) (a2 : a ≤ 255) (b1 : 0 ≤ b) (b2 : b ≤ 255) (n1 : 0 ≤ n) (n2 : n ≤ 65535) (hx : 1 + a % 3 = x) (hy : 1 + b % 3 = x) (x1 : 1 ≤ x) (x2 : x ≤ 3)  (w : World) :
    Calls Try.prog 6 #[.int .u8 a, .int .u8 b, .int .u16 n] w fun e w' => e = .returned (.bool true) ∧ Below w.heap.size w w' := by
  have hbw := Below.refl w.heap.size w
  go_enter Try.func6, Try.ntmps6
  go_wp2_with fail
  refine (examples_any _).mono ?_
  rintro e1 w1 ⟨rfl, hb1⟩
  replace hbw := hbw.trans (hb1.mono hbw.size)
  clear hb1
  go_wp2_with fail
  refine (new_ok (tr := 3) (ba := 2) (ke := 5) (ho := 30) ⟨by omega, by omega, by omega, by omega, by omega, by omega, by omega, by omega⟩ _).mono ?_
  rintro e2 w2 ⟨rfl, hb2, T⟩
  change Tab _ _ _ _ _ _ Zt at T
  have Hg : w.heap.size ≤ w1.heap.size := hbw.size
  replace hbw := hbw.trans (hb2.mono Hg)
  clear hb2
  go_wp2_with fail
  refine (open_ok 4 x 9 n _ ((T.alloc _).alloc _) (by omega) (by omega) (by omega) (by omega) (none9 (by omega)) (by omega) (by omega) (by omega) (by omega)).mono ?_
  rintro e3 w3 ⟨rfl, T3, hg3⟩
  have n0_1 : w2.heap.size ≠ w2.heap.size + 1 := by omega
  have n1_0 := Ne.symm n0_1
  have ng0 := Nat.ne_of_gt T.lt
  have ng1 := Nat.ne_of_gt (Nat.lt_succ_of_lt T.lt)
  have B0 := ((Blk.new w2 _ _).alloc _).only hg3 ng0
  have B1 := (Blk.new (w2.alloc _) _ _).only hg3 (by rw [World.size_alloc]; exact ng1)
  simp only [World.size_alloc] at B1
  clear T
  have T := T3
  clear T3
  replace hbw := ((hbw.alloc hbw.size _).alloc (by have := hbw.size; simp; omega) _).grown hg3 (by have := hbw.size; simp; omega) (fun _ e => by injection e with e; rw [← e]; exact Hg)
  clear hg3
  obtain ⟨c0, f0, z0⟩ := B0.all
  obtain ⟨c1, f1, z1⟩ := B1.all
  go_wp2_with fail
  refine (heard_yes 4 ⟨((4 : Nat) : Int), 3, 0, x, 9, n + 5, n + 30⟩ (n + 3) _ T (by omega) (by omega) (by omega) (by omega) rfl rfl (by omega) (by omega)).mono ?_
  rintro e4 w4 ⟨rfl, T4, hg4⟩
  clear c0 f0 z0
  clear c1 f1 z1
  replace B0 := B0.only hg4 ng0
  replace B1 := B1.only hg4 ng1
  clear T
  have T := T4
  clear T4
  replace hbw := hbw.grown hg4 hbw.size (fun _ e => by injection e with e; rw [← e]; exact Hg)
  clear hg4
  obtain ⟨c0, f0, z0⟩ := B0.all
  obtain ⟨c1, f1, z1⟩ := B1.all
  rw [upd_upd] at T
  go_wp2_with fail
  refine (of_yes 4 ⟨((4 : Nat) : Int), 3, 0, x, 9, n + 5, n + 3 + 30⟩ _ T (by omega) (by omega) rfl (show (3 : Int) ≠ 0 by decide)).mono ?_
  rintro e5 w5 ⟨rfl, hb5⟩
  clear c0 f0 z0
  clear c1 f1 z1
  replace B0 := B0.keep hb5
  replace B1 := B1.keep hb5
  replace T := T.keep hb5
  replace hbw := hbw.trans (hb5.mono hbw.size)
  clear hb5
  obtain ⟨c0, f0, z0⟩ := B0.all
  obtain ⟨c1, f1, z1⟩ := B1.all
  go_wp2_with fail
  refine (want_old 4 (n + 4) _ (T.alloc _) (by omega) (by omega) (by omega) (show (3 : Int) ≠ 0 by decide)).mono ?_
  rintro e6 w6 ⟨rfl, rfl⟩
  go_wp2_with fail
  refine (open_ok 4 x 9 (n + 5) _ (T.alloc _) (by omega) (by omega) (by omega) (by omega) (none9 (by omega)) (by omega) (by omega) (by omega) (by omega)).mono ?_
  rintro e7 w7 ⟨rfl, T7, hg7⟩
  clear c0 f0 z0
  clear c1 f1 z1
  have n0_2 := Nat.ne_of_lt B0.lt
  have n2_0 := Ne.symm n0_2
  have n1_2 := Nat.ne_of_lt B1.lt
  have n2_1 := Ne.symm n1_2
  have ng2 := Nat.ne_of_gt T.lt
  replace B0 := (B0.alloc _).only hg7 ng0
  replace B1 := (B1.alloc _).only hg7 ng1
  have B2 := (Blk.new w5 _ _).only hg7 ng2
  clear T
  have T := T7
  clear T7
  replace hbw := (hbw.alloc hbw.size _).grown hg7 (by have := hbw.size; simp; omega) (fun _ e => by injection e with e; rw [← e]; exact Hg)
  clear hg7
  obtain ⟨c0, f0, z0⟩ := B0.all
  obtain ⟨c1, f1, z1⟩ := B1.all
  obtain ⟨c2, f2, z2⟩ := B2.all
  rw [upd_upd] at T
  go_wp2_with fail
  refine (of_yes 4 ⟨((4 : Nat) : Int), 3, 0, x, 9, n + 5 + 5, n + 5 + 30⟩ _ T (by omega) (by omega) rfl (show (3 : Int) ≠ 0 by decide)).mono ?_
  rintro e8 w8 ⟨rfl, hb8⟩
  clear c0 f0 z0
  clear c1 f1 z1
  clear c2 f2 z2
  replace B0 := B0.keep hb8
  replace B1 := B1.keep hb8
  replace B2 := B2.keep hb8
  replace T := T.keep hb8
  replace hbw := hbw.trans (hb8.mono hbw.size)
  clear hb8
  obtain ⟨c0, f0, z0⟩ := B0.all
  obtain ⟨c1, f1, z1⟩ := B1.all
  obtain ⟨c2, f2, z2⟩ := B2.all
  go_wp2_with fail
  refine (lost_yes 4 _ (T.alloc _) (by omega) (by omega) (show (3 : Int) ≠ 0 by decide)).mono ?_
  rintro e9 w9 ⟨rfl, T9, hg9⟩
  clear c0 f0 z0
  clear c1 f1 z1
  clear c2 f2 z2
  have n0_3 := Nat.ne_of_lt B0.lt
  have n3_0 := Ne.symm n0_3
  have n1_3 := Nat.ne_of_lt B1.lt
  have n3_1 := Ne.symm n1_3
  have n2_3 := Nat.ne_of_lt B2.lt
  have n3_2 := Ne.symm n2_3
  have ng3 := Nat.ne_of_gt T.lt
  replace B0 := (B0.alloc _).only hg9 ng0
  replace B1 := (B1.alloc _).only hg9 ng1
  replace B2 := (B2.alloc _).only hg9 ng2
  have B3 := (Blk.new w8 _ _).only hg9 ng3
  clear T
  have T := T9
  clear T9
  replace hbw := (hbw.alloc hbw.size _).grown hg9 (by have := hbw.size; simp; omega) (fun _ e => by injection e with e; rw [← e]; exact Hg)
  clear hg9
  obtain ⟨c0, f0, z0⟩ := B0.all
  obtain ⟨c1, f1, z1⟩ := B1.all
  obtain ⟨c2, f2, z2⟩ := B2.all
  obtain ⟨c3, f3, z3⟩ := B3.all
  rw [upd_upd, upd_zero] at T
  go_wp2_with fail
  refine (of_none 4 _ T (by omega) (by omega) rfl).mono ?_
  rintro e10 w10 ⟨rfl, hb10⟩
  clear c0 f0 z0
  clear c1 f1 z1
  clear c2 f2 z2
  clear c3 f3 z3
  replace B0 := B0.keep hb10
  replace B1 := B1.keep hb10
  replace B2 := B2.keep hb10
  replace B3 := B3.keep hb10
  replace T := T.keep hb10
  replace hbw := hbw.trans (hb10.mono hbw.size)
  clear hb10
  obtain ⟨c0, f0, z0⟩ := B0.all
  obtain ⟨c1, f1, z1⟩ := B1.all
  obtain ⟨c2, f2, z2⟩ := B2.all
  obtain ⟨c3, f3, z3⟩ := B3.all
  go_wp2_with fail
  refine (want_ok 4 (n + 6) _ (T.alloc _) (by omega) (by omega) (by omega) rfl).mono ?_
  rintro e11 w11 ⟨rfl, T11, hg11⟩
  clear c0 f0 z0
  clear c1 f1 z1
  clear c2 f2 z2
  clear c3 f3 z3
  replace B0 := (B0.alloc _).only hg11 ng0
  replace B1 := (B1.alloc _).only hg11 ng1
  replace B2 := (B2.alloc _).only hg11 ng2
  replace B3 := (B3.alloc _).only hg11 ng3
  clear T
  have T := T11
  clear T11
  replace hbw := (hbw.alloc hbw.size _).grown hg11 (by have := hbw.size; simp; omega) (fun _ e => by injection e with e; rw [← e]; exact Hg)
  clear hg11
  obtain ⟨c0, f0, z0⟩ := B0.all
  obtain ⟨c1, f1, z1⟩ := B1.all
  obtain ⟨c2, f2, z2⟩ := B2.all
  obtain ⟨c3, f3, z3⟩ := B3.all
  have q1 : n + 5 + 5 = n + 10 := by omega
  have q2 : n + 5 + 30 = n + 35 := by omega
  have q3 : n + 3 + 30 = n + 33 := by omega
  rw [q1, q2] at c3
  rw [q3] at c2
  clear q1 q2 q3
  go_wp2_with fail
  refine (open_bad _ 0 x 9 n _ (by omega)).mono ?_
  rintro e12 w12 ⟨rfl, hb12⟩
  clear c0 f0 z0
  clear c1 f1 z1
  clear c2 f2 z2
  clear c3 f3 z3
  replace B0 := B0.keep hb12
  replace B1 := B1.keep hb12
  replace B2 := B2.keep hb12
  replace B3 := B3.keep hb12
  replace T := T.keep hb12
  replace hbw := hbw.trans (hb12.mono hbw.size)
  clear hb12
  obtain ⟨c0, f0, z0⟩ := B0.all
  obtain ⟨c1, f1, z1⟩ := B1.all
  obtain ⟨c2, f2, z2⟩ := B2.all
  obtain ⟨c3, f3, z3⟩ := B3.all
  go_wp2_with fail
  refine (open_none _ 4 0 0 n _ (by omega) (by omega) (by omega) rfl).mono ?_
  rintro e13 w13 ⟨rfl, hb13⟩
  clear c0 f0 z0
  clear c1 f1 z1
  clear c2 f2 z2
  clear c3 f3 z3
  replace B0 := B0.keep hb13
  replace B1 := B1.keep hb13
  replace B2 := B2.keep hb13
  replace B3 := B3.keep hb13
  replace T := T.keep hb13
  replace hbw := hbw.trans (hb13.mono hbw.size)
  clear hb13
  obtain ⟨c0, f0, z0⟩ := B0.all
  obtain ⟨c1, f1, z1⟩ := B1.all
  obtain ⟨c2, f2, z2⟩ := B2.all
  obtain ⟨c3, f3, z3⟩ := B3.all
  go_wp2
  go_ret
  exact ⟨rfl, hbw⟩

set_option maxRecDepth 100000 in
set_option maxHeartbeats 8000000 in
theorem po_ne (a b n x y : Int) (a1 : 0 ≤ a) (a2 : a ≤ 255) (b1 : 0 ≤ b) (b2 : b ≤ 255) (n1 : 0 ≤ n) (n2 : n ≤ 65535) (hx : 1 + a % 3 = x) (hy : 1 + b % 3 = y) (hne : x ≠ y) (x1 : 1 ≤ x) (x2 : x ≤ 3) (y1 : 1 ≤ y) (y2 : y ≤ 3) (w : World) :
    Calls Try.prog 6 #[.int .u8 a, .int .u8 b, .int .u16 n] w fun e w' => e = .returned (.bool true) ∧ Below w.heap.size w w' := by
  have hne' := ne_b hne
  have Hne := Lib.hid hne
  have hbw := Below.refl w.heap.size w
  go_enter Try.func6, Try.ntmps6
  go_wp2_with fail
  refine (examples_any _).mono ?_
  rintro e1 w1 ⟨rfl, hb1⟩
  replace hbw := hbw.trans (hb1.mono hbw.size)
  clear hb1
  go_wp2_with fail
  refine (new_ok (tr := 3) (ba := 2) (ke := 5) (ho := 30) ⟨by omega, by omega, by omega, by omega, by omega, by omega, by omega, by omega⟩ _).mono ?_
  rintro e2 w2 ⟨rfl, hb2, T⟩
  change Tab _ _ _ _ _ _ Zt at T
  have Hg : w.heap.size ≤ w1.heap.size := hbw.size
  replace hbw := hbw.trans (hb2.mono Hg)
  clear hb2
  go_wp2_with fail
  refine (open_ok 4 x 9 n _ ((T.alloc _).alloc _) (by omega) (by omega) (by omega) (by omega) (none9 (by omega)) (by omega) (by omega) (by omega) (by omega)).mono ?_
  rintro e3 w3 ⟨rfl, T3, hg3⟩
  have n0_1 : w2.heap.size ≠ w2.heap.size + 1 := by omega
  have n1_0 := Ne.symm n0_1
  have ng0 := Nat.ne_of_gt T.lt
  have ng1 := Nat.ne_of_gt (Nat.lt_succ_of_lt T.lt)
  have B0 := ((Blk.new w2 _ _).alloc _).only hg3 ng0
  have B1 := (Blk.new (w2.alloc _) _ _).only hg3 (by rw [World.size_alloc]; exact ng1)
  simp only [World.size_alloc] at B1
  clear T
  have T := T3
  clear T3
  replace hbw := ((hbw.alloc hbw.size _).alloc (by have := hbw.size; simp; omega) _).grown hg3 (by have := hbw.size; simp; omega) (fun _ e => by injection e with e; rw [← e]; exact Hg)
  clear hg3
  obtain ⟨c0, f0, z0⟩ := B0.all
  obtain ⟨c1, f1, z1⟩ := B1.all
  go_wp2_with fail
  refine (heard_else 4 y 9 (n + 3) _ T (by omega) (by omega) rfl (by omega) (.inl Hne.out)).mono ?_
  rintro e4 w4 ⟨rfl, hb4⟩
  clear c0 f0 z0
  clear c1 f1 z1
  replace B0 := B0.keep hb4
  replace B1 := B1.keep hb4
  replace T := T.keep hb4
  replace hbw := hbw.trans (hb4.mono hbw.size)
  clear hb4
  obtain ⟨c0, f0, z0⟩ := B0.all
  obtain ⟨c1, f1, z1⟩ := B1.all
  go_wp2_with fail
  refine (of_yes 4 ⟨((4 : Nat) : Int), 3, 0, x, 9, n + 5, n + 30⟩ _ T (by omega) (by omega) rfl (show (3 : Int) ≠ 0 by decide)).mono ?_
  rintro e5 w5 ⟨rfl, hb5⟩
  clear c0 f0 z0
  clear c1 f1 z1
  replace B0 := B0.keep hb5
  replace B1 := B1.keep hb5
  replace T := T.keep hb5
  replace hbw := hbw.trans (hb5.mono hbw.size)
  clear hb5
  obtain ⟨c0, f0, z0⟩ := B0.all
  obtain ⟨c1, f1, z1⟩ := B1.all
  go_wp2_with fail
  refine (want_old 4 (n + 4) _ (T.alloc _) (by omega) (by omega) (by omega) (show (3 : Int) ≠ 0 by decide)).mono ?_
  rintro e6 w6 ⟨rfl, rfl⟩
  go_wp2_with fail
  refine (open_ok 4 y 9 (n + 5) _ (T.alloc _) (by omega) (by omega) (by omega) (by omega) (none9 (by omega)) (by omega) (by omega) (by omega) (by omega)).mono ?_
  rintro e7 w7 ⟨rfl, T7, hg7⟩
  clear c0 f0 z0
  clear c1 f1 z1
  have n0_2 := Nat.ne_of_lt B0.lt
  have n2_0 := Ne.symm n0_2
  have n1_2 := Nat.ne_of_lt B1.lt
  have n2_1 := Ne.symm n1_2
  have ng2 := Nat.ne_of_gt T.lt
  replace B0 := (B0.alloc _).only hg7 ng0
  replace B1 := (B1.alloc _).only hg7 ng1
  have B2 := (Blk.new w5 _ _).only hg7 ng2
  clear T
  have T := T7
  clear T7
  replace hbw := (hbw.alloc hbw.size _).grown hg7 (by have := hbw.size; simp; omega) (fun _ e => by injection e with e; rw [← e]; exact Hg)
  clear hg7
  obtain ⟨c0, f0, z0⟩ := B0.all
  obtain ⟨c1, f1, z1⟩ := B1.all
  obtain ⟨c2, f2, z2⟩ := B2.all
  rw [upd_upd] at T
  go_wp2_with fail
  refine (of_yes 4 ⟨((4 : Nat) : Int), 3, 0, y, 9, n + 5 + 5, n + 5 + 30⟩ _ T (by omega) (by omega) rfl (show (3 : Int) ≠ 0 by decide)).mono ?_
  rintro e8 w8 ⟨rfl, hb8⟩
  clear c0 f0 z0
  clear c1 f1 z1
  clear c2 f2 z2
  replace B0 := B0.keep hb8
  replace B1 := B1.keep hb8
  replace B2 := B2.keep hb8
  replace T := T.keep hb8
  replace hbw := hbw.trans (hb8.mono hbw.size)
  clear hb8
  obtain ⟨c0, f0, z0⟩ := B0.all
  obtain ⟨c1, f1, z1⟩ := B1.all
  obtain ⟨c2, f2, z2⟩ := B2.all
  go_wp2_with fail
  refine (lost_yes 4 _ (T.alloc _) (by omega) (by omega) (show (3 : Int) ≠ 0 by decide)).mono ?_
  rintro e9 w9 ⟨rfl, T9, hg9⟩
  clear c0 f0 z0
  clear c1 f1 z1
  clear c2 f2 z2
  have n0_3 := Nat.ne_of_lt B0.lt
  have n3_0 := Ne.symm n0_3
  have n1_3 := Nat.ne_of_lt B1.lt
  have n3_1 := Ne.symm n1_3
  have n2_3 := Nat.ne_of_lt B2.lt
  have n3_2 := Ne.symm n2_3
  have ng3 := Nat.ne_of_gt T.lt
  replace B0 := (B0.alloc _).only hg9 ng0
  replace B1 := (B1.alloc _).only hg9 ng1
  replace B2 := (B2.alloc _).only hg9 ng2
  have B3 := (Blk.new w8 _ _).only hg9 ng3
  clear T
  have T := T9
  clear T9
  replace hbw := (hbw.alloc hbw.size _).grown hg9 (by have := hbw.size; simp; omega) (fun _ e => by injection e with e; rw [← e]; exact Hg)
  clear hg9
  obtain ⟨c0, f0, z0⟩ := B0.all
  obtain ⟨c1, f1, z1⟩ := B1.all
  obtain ⟨c2, f2, z2⟩ := B2.all
  obtain ⟨c3, f3, z3⟩ := B3.all
  rw [upd_upd, upd_zero] at T
  go_wp2_with fail
  refine (of_none 4 _ T (by omega) (by omega) rfl).mono ?_
  rintro e10 w10 ⟨rfl, hb10⟩
  clear c0 f0 z0
  clear c1 f1 z1
  clear c2 f2 z2
  clear c3 f3 z3
  replace B0 := B0.keep hb10
  replace B1 := B1.keep hb10
  replace B2 := B2.keep hb10
  replace B3 := B3.keep hb10
  replace T := T.keep hb10
  replace hbw := hbw.trans (hb10.mono hbw.size)
  clear hb10
  obtain ⟨c0, f0, z0⟩ := B0.all
  obtain ⟨c1, f1, z1⟩ := B1.all
  obtain ⟨c2, f2, z2⟩ := B2.all
  obtain ⟨c3, f3, z3⟩ := B3.all
  go_wp2_with fail
  refine (want_ok 4 (n + 6) _ (T.alloc _) (by omega) (by omega) (by omega) rfl).mono ?_
  rintro e11 w11 ⟨rfl, T11, hg11⟩
  clear c0 f0 z0
  clear c1 f1 z1
  clear c2 f2 z2
  clear c3 f3 z3
  replace B0 := (B0.alloc _).only hg11 ng0
  replace B1 := (B1.alloc _).only hg11 ng1
  replace B2 := (B2.alloc _).only hg11 ng2
  replace B3 := (B3.alloc _).only hg11 ng3
  clear T
  have T := T11
  clear T11
  replace hbw := (hbw.alloc hbw.size _).grown hg11 (by have := hbw.size; simp; omega) (fun _ e => by injection e with e; rw [← e]; exact Hg)
  clear hg11
  obtain ⟨c0, f0, z0⟩ := B0.all
  obtain ⟨c1, f1, z1⟩ := B1.all
  obtain ⟨c2, f2, z2⟩ := B2.all
  obtain ⟨c3, f3, z3⟩ := B3.all
  have q1 : n + 5 + 5 = n + 10 := by omega
  have q2 : n + 5 + 30 = n + 35 := by omega
  have q3 : n + 3 + 30 = n + 33 := by omega
  rw [q1, q2] at c3
  skip
  clear q1 q2 q3
  go_wp2_with fail
  refine (open_bad _ 0 x 9 n _ (by omega)).mono ?_
  rintro e12 w12 ⟨rfl, hb12⟩
  clear c0 f0 z0
  clear c1 f1 z1
  clear c2 f2 z2
  clear c3 f3 z3
  replace B0 := B0.keep hb12
  replace B1 := B1.keep hb12
  replace B2 := B2.keep hb12
  replace B3 := B3.keep hb12
  replace T := T.keep hb12
  replace hbw := hbw.trans (hb12.mono hbw.size)
  clear hb12
  obtain ⟨c0, f0, z0⟩ := B0.all
  obtain ⟨c1, f1, z1⟩ := B1.all
  obtain ⟨c2, f2, z2⟩ := B2.all
  obtain ⟨c3, f3, z3⟩ := B3.all
  go_wp2_with fail
  refine (open_none _ 4 0 0 n _ (by omega) (by omega) (by omega) rfl).mono ?_
  rintro e13 w13 ⟨rfl, hb13⟩
  clear c0 f0 z0
  clear c1 f1 z1
  clear c2 f2 z2
  clear c3 f3 z3
  replace B0 := B0.keep hb13
  replace B1 := B1.keep hb13
  replace B2 := B2.keep hb13
  replace B3 := B3.keep hb13
  replace T := T.keep hb13
  replace hbw := hbw.trans (hb13.mono hbw.size)
  clear hb13
  obtain ⟨c0, f0, z0⟩ := B0.all
  obtain ⟨c1, f1, z1⟩ := B1.all
  obtain ⟨c2, f2, z2⟩ := B2.all
  obtain ⟨c3, f3, z3⟩ := B3.all
  go_wp2
  go_ret
  exact ⟨rfl, hbw⟩

theorem po_any (a b n : Int) (a1 : 0 ≤ a) (a2 : a ≤ 255) (b1 : 0 ≤ b) (b2 : b ≤ 255) (n1 : 0 ≤ n) (n2 : n ≤ 65535) (w : World) :
    Calls Try.prog 6 #[.int .u8 a, .int .u8 b, .int .u16 n] w fun e w' => e = .returned (.bool true) ∧ Below w.heap.size w w' := by
  by_cases h : 1 + a % 3 = 1 + b % 3
  · exact po_eq a b n (1 + a % 3) a1 a2 b1 b2 n1 n2 rfl h.symm (by omega) (by omega) w
  · exact po_ne a b n (1 + a % 3) (1 + b % 3) a1 a2 b1 b2 n1 n2 rfl rfl h (by omega) (by omega) (by omega) (by omega) w

end Go.Proofs.Ytglliiijeadhcaa
