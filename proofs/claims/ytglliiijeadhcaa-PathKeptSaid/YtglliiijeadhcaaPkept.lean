/- What PathKept does: at all arguments it answers true, and changes nothing that was there. -/
import Derived.Test.YtglliiijeadhcaaKd
namespace Go.Proofs.Ytglliiijeadhcaa
open Go.RowKit
set_option linter.unusedVariables false

theorem step_early {tr ba ke ho n : Int} (x : Pt) (h : n < x.f) : stepF tr ba ke ho n x = (x, 0) := by
  unfold stepF
  rw [if_pos h]
theorem step_k {ke ho n f u : Int} (h : f ≤ n) (hu : n < u) : stepF 3 2 ke ho n ⟨((2 : Nat) : Int), 3, 0, 4, 4, f, u⟩ = (⟨((2 : Nat) : Int), 3, 0, 4, 4, n + ke, u⟩, 2) := by
  simp only [stepF]
  rw [if_neg (by omega), if_pos ⟨trivial, hu⟩]
theorem step_s {ke ho n f u : Int} (h : f ≤ n) (hu : u ≤ n) : stepF 3 2 ke ho n ⟨((2 : Nat) : Int), 3, 0, 4, 4, f, u⟩ = (⟨((2 : Nat) : Int), 2, 1, 0, 0, n + 2, 0⟩, 1) := by
  simp only [stepF]
  rw [if_neg (by omega), if_neg (by omega), if_neg (by omega), if_neg (by omega)]
theorem step_nd {ke ho n : Int} {x : Pt} (hb : x.b = 1 ∨ x.b = 2) (hc : 0 ≤ x.c) : ((stepF 3 2 ke ho n x).1.b = 1 ∨ (stepF 3 2 ke ho n x).1.b = 2) ∧ 0 ≤ (stepF 3 2 ke ho n x).1.c := by
  unfold stepF
  split
  · exact ⟨hb, hc⟩
  · split
    · omega
    · split
      · exact ⟨.inl rfl, hc⟩
      · split
        · exact ⟨hb, show 0 ≤ x.c + 1 by omega⟩
        · exact ⟨.inr rfl, show (0 : Int) ≤ 1 by decide⟩
theorem due_some {g : Nat} {tr ba ke ho : Int} (N : Num tr ba ke ho) (p : Nat) (x : Pt) (n : Int) (w : World) (T : Tab w g tr ba ke ho (upd Zt p x)) (p2 : p < 33) (h0 : 0 ≤ n) (h3 : n ≤ 4611686018427387904) (hx : x.b ≠ 0) (hc : 0 ≤ x.c) :
    Calls Try.prog 21 #[.pointer (some ⟨g, 0, none⟩), .int .u64 n] w fun e w' => ∃ v, e = .returned v ∧ Tab w' g tr ba ke ho (upd Zt p (stepF tr ba ke ho n x).1) ∧ w.grownBy w' (some g) := by
  refine (due_any N n w T h0 h3 (one_c hc)).mono ?_
  rintro e w' ⟨v, rfl, h1, h2, h4⟩
  rw [dueF_one (q := (stepF tr ba ke ho n x).2) p2 hx rfl] at h1
  exact ⟨v, rfl, h1, h4⟩
def PK (k h : Int) (v13 v14 : Value) (wr : World) (g g0 : Nat) : Prop :=
  ∃ (t : Nat) (la : Int), v13 = .int .u64 la ∧ v14 = .int .u64 t ∧ 1 ≤ t ∧ t ≤ 160 ∧ (0 ≤ la ∧ la < (t : Int)) ∧ Blk wr g0 35 #[.int .u32 4, .int .u16 4] ∧
    ((∃ f : Int, Tab wr g 3 2 k h (upd Zt 2 ⟨((2 : Nat) : Int), 3, 0, 4, 4, f, la + h⟩) ∧ (t : Int) ≤ f ∧ f ≤ la + h + k) ∨
     (∃ x : Pt, Tab wr g 3 2 k h (upd Zt 2 x) ∧ (x.b = 1 ∨ x.b = 2) ∧ 0 ≤ x.c))
set_option maxRecDepth 100000 in
set_option maxHeartbeats 20000000 in
theorem pk_any (x y z k h : Int) (x1 : 0 ≤ x) (x2 : x ≤ 255) (y1 : 0 ≤ y) (y2 : y ≤ 255) (z1 : 0 ≤ z) (z2 : z ≤ 255) (hx : 1 + x % 10 = k) (hy : k + y % 40 = h)
    (k1 : 1 ≤ k) (k2 : k ≤ 10) (h1 : k ≤ h) (h2 : h ≤ 50) (N : Num 3 2 k h) (w : World) :
    Calls Try.prog 5 #[.int .u8 x, .int .u8 y, .int .u8 z] w fun e w' => e = .returned (.bool true) ∧ Below w.heap.size w w' := by
  have hN := Lib.hid N
  clear N
  have hbw := Below.refl w.heap.size w
  go_enter Try.func5, Try.ntmps5
  go_wp2_with fail
  refine (examples_any _).mono ?_
  rintro e1 w1 ⟨rfl, hb1⟩
  replace hbw := hbw.trans (hb1.mono hbw.size)
  clear hb1
  go_wp2_with fail
  refine (new_ok hN.out _).mono ?_
  rintro e2 w2 ⟨rfl, hb2, T⟩
  change Tab _ _ _ _ _ _ Zt at T
  have Hg : w.heap.size ≤ w1.heap.size := hbw.size
  replace hbw := hbw.trans (hb2.mono Hg)
  clear hb2
  go_wp2_with fail
  refine (open_ok 2 4 4 0 _ (T.alloc _) (by omega) (by omega) (by omega) (by omega) rfl (by omega) (by omega) (by omega) (by omega)).mono ?_
  rintro e3 w3 ⟨rfl, T3, hg3⟩
  have ng0 := Nat.ne_of_gt T.lt
  have B0 := (Blk.new w2 _ _).only hg3 ng0
  clear T
  have T := T3
  clear T3
  replace hbw := (hbw.alloc hbw.size _).grown hg3 (by have := hbw.size; simp; omega) (fun _ e => by injection e with e; rw [← e]; exact Hg)
  clear hg3
  obtain ⟨c0, f0, z0⟩ := B0.all
  go_wp2_with fail
  try rw [hx]
  try rw [hy]
  clear hx hy
  go_loopw [13, 14] (fun v13 v14 wr => PK k h v13 v14 wr w1.heap.size w2.heap.size ∧ Below w.heap.size w wr) (fun _ v14 _ => 160 - (intOf v14).toNat)
  case atStart => exact ⟨⟨1, 0, rfl, rfl, by omega, by omega, by omega, B0, .inl ⟨0 + k, T, by omega, by omega⟩⟩, hbw⟩
  case round =>
    clear T hbw B0 c0 f0 z0
    obtain ⟨⟨t, la, rfl, rfl, ht, hl0, hl1, B0, hD⟩, hbw⟩ := hrel
    by_cases hlt : t < 160
    · rcases hD with ⟨f, T, hf1, hf2⟩ | ⟨x, T, hxb, hxc⟩
      · by_cases hti : (t : Int) ≤ z
        · by_cases hf : (t : Int) < f
          · obtain ⟨c0, f0, z0⟩ := B0.all
            go_wp2_with fail
            refine (of_yes 2 ⟨((2 : Nat) : Int), 3, 0, 4, 4, f, la + h⟩ _ T (by omega) (by omega) rfl (show (3 : Int) ≠ 0 by decide)).mono ?_
            rintro e11 w11 ⟨rfl, hb11⟩
            clear c0 f0 z0
            replace B0 := B0.keep hb11
            replace T := T.keep hb11
            replace hbw := hbw.trans (hb11.mono hbw.size)
            clear hb11
            obtain ⟨c0, f0, z0⟩ := B0.all
            go_wp2_with fail
            refine (heard_yes 2 ⟨((2 : Nat) : Int), 3, 0, 4, 4, f, la + h⟩ t _ (T.alloc _) (by omega) (by omega) (by omega) (by omega) rfl rfl (by omega) (by omega)).mono ?_
            rintro e12 w12 ⟨rfl, T12, hg12⟩
            clear c0 f0 z0
            have n0_1 := Nat.ne_of_lt B0.lt
            have n1_0 := Ne.symm n0_1
            have ng1 := Nat.ne_of_gt T.lt
            replace B0 := (B0.alloc _).only hg12 ng0
            have B1 := (Blk.new w11 _ _).only hg12 ng1
            clear T
            have T := T12
            clear T12
            replace hbw := (hbw.alloc hbw.size _).grown hg12 (by have := hbw.size; simp; omega) (fun _ e => by injection e with e; rw [← e]; exact Hg)
            clear hg12
            obtain ⟨c0, f0, z0⟩ := B0.all
            obtain ⟨c1, f1, z1⟩ := B1.all
            rw [upd_upd] at T
            go_wp2_with fail
            refine (due_still hN.out 2 ⟨((2 : Nat) : Int), 3, 0, 4, 4, f, (t : Int) + h⟩ ⟨((2 : Nat) : Int), 3, 0, 4, 4, f, (t : Int) + h⟩ 0 t _ T (by omega) (by omega) (by omega) (show (3 : Int) ≠ 0 by decide) (Int.le_refl 0) (step_early _ (show (t : Int) < f by omega)) (by decide)).mono ?_
            rintro e13 w13 ⟨A, C, rfl, T13, hg13⟩
            clear c0 f0 z0
            clear c1 f1 z1
            replace B0 := B0.only hg13 ng0
            replace B1 := B1.only hg13 ng1
            clear T
            have T := T13
            clear T13
            replace hbw := hbw.grown hg13 hbw.size (fun _ e => by injection e with e; rw [← e]; exact Hg)
            clear hg13
            obtain ⟨c0, f0, z0⟩ := B0.all
            obtain ⟨c1, f1, z1⟩ := B1.all
            go_wp2_with fail
            refine (of_yes 2 ⟨((2 : Nat) : Int), 3, 0, 4, 4, f, (t : Int) + h⟩ _ T (by omega) (by omega) rfl (show (3 : Int) ≠ 0 by decide)).mono ?_
            rintro e14 w14 ⟨rfl, hb14⟩
            clear c0 f0 z0
            clear c1 f1 z1
            replace B0 := B0.keep hb14
            replace B1 := B1.keep hb14
            replace T := T.keep hb14
            replace hbw := hbw.trans (hb14.mono hbw.size)
            clear hb14
            obtain ⟨c0, f0, z0⟩ := B0.all
            obtain ⟨c1, f1, z1⟩ := B1.all
            go_wp2
            all_goals
              go_roundw
              case rel => exact ⟨⟨t + 1, (t : Int), rfl, by go_num, by omega, by omega, by omega, B0.alloc _, .inl ⟨f, T.alloc _, by omega, by omega⟩⟩, hbw.alloc hbw.size _⟩
              case measure => simp [intOf]; omega
          · obtain ⟨c0, f0, z0⟩ := B0.all
            go_wp2_with fail
            refine (of_yes 2 ⟨((2 : Nat) : Int), 3, 0, 4, 4, f, la + h⟩ _ T (by omega) (by omega) rfl (show (3 : Int) ≠ 0 by decide)).mono ?_
            rintro e11 w11 ⟨rfl, hb11⟩
            clear c0 f0 z0
            replace B0 := B0.keep hb11
            replace T := T.keep hb11
            replace hbw := hbw.trans (hb11.mono hbw.size)
            clear hb11
            obtain ⟨c0, f0, z0⟩ := B0.all
            go_wp2_with fail
            refine (heard_yes 2 ⟨((2 : Nat) : Int), 3, 0, 4, 4, f, la + h⟩ t _ (T.alloc _) (by omega) (by omega) (by omega) (by omega) rfl rfl (by omega) (by omega)).mono ?_
            rintro e12 w12 ⟨rfl, T12, hg12⟩
            clear c0 f0 z0
            have n0_1 := Nat.ne_of_lt B0.lt
            have n1_0 := Ne.symm n0_1
            have ng1 := Nat.ne_of_gt T.lt
            replace B0 := (B0.alloc _).only hg12 ng0
            have B1 := (Blk.new w11 _ _).only hg12 ng1
            clear T
            have T := T12
            clear T12
            replace hbw := (hbw.alloc hbw.size _).grown hg12 (by have := hbw.size; simp; omega) (fun _ e => by injection e with e; rw [← e]; exact Hg)
            clear hg12
            obtain ⟨c0, f0, z0⟩ := B0.all
            obtain ⟨c1, f1, z1⟩ := B1.all
            rw [upd_upd] at T
            go_wp2_with fail
            refine (due_send hN.out 2 ⟨((2 : Nat) : Int), 3, 0, 4, 4, f, (t : Int) + h⟩ ⟨((2 : Nat) : Int), 3, 0, 4, 4, (t : Int) + k, (t : Int) + h⟩ 2 t _ T (by omega) (by omega) (by omega) (show (3 : Int) ≠ 0 by decide) (Int.le_refl 0) (step_k (show f ≤ (t : Int) by omega) (show (t : Int) < (t : Int) + h by omega)) (by decide)).mono ?_
            rintro e13 w13 ⟨p2, q2, cur2, rfl, T13, hg13, hr2, h12, B2, r02, r12⟩
            clear c0 f0 z0
            clear c1 f1 z1
            replace B0 := B0.only hg13 ng0
            replace B1 := B1.only hg13 ng1
            have ng2 : p2 ≠ _ := Nat.ne_of_gt (Nat.lt_of_lt_of_le T.lt hr2)
            clear T
            have T := T13
            clear T13
            replace hbw := hbw.grown hg13 hbw.size (fun _ e => by injection e with e; rw [← e]; exact Hg)
            clear hg13
            clear hr2
            obtain ⟨c0, f0, z0⟩ := B0.all
            obtain ⟨c1, f1, z1⟩ := B1.all
            obtain ⟨c2, f2, z2⟩ := B2.all
            go_wp2_with fail
            refine (of_yes 2 ⟨((2 : Nat) : Int), 3, 0, 4, 4, (t : Int) + k, (t : Int) + h⟩ _ T (by omega) (by omega) rfl (show (3 : Int) ≠ 0 by decide)).mono ?_
            rintro e14 w14 ⟨rfl, hb14⟩
            clear c0 f0 z0
            clear c1 f1 z1
            clear c2 f2 z2
            replace B0 := B0.keep hb14
            replace B1 := B1.keep hb14
            replace B2 := B2.keep hb14
            replace T := T.keep hb14
            replace hbw := hbw.trans (hb14.mono hbw.size)
            clear hb14
            obtain ⟨c0, f0, z0⟩ := B0.all
            obtain ⟨c1, f1, z1⟩ := B1.all
            obtain ⟨c2, f2, z2⟩ := B2.all
            go_wp2
            all_goals
              go_roundw
              case rel => exact ⟨⟨t + 1, (t : Int), rfl, by go_num, by omega, by omega, by omega, B0.alloc _, .inl ⟨(t : Int) + k, T.alloc _, by omega, by omega⟩⟩, hbw.alloc hbw.size _⟩
              case measure => simp [intOf]; omega
        · by_cases hf : (t : Int) < f
          · obtain ⟨c0, f0, z0⟩ := B0.all
            go_wp2_with fail
            refine (of_yes 2 ⟨((2 : Nat) : Int), 3, 0, 4, 4, f, la + h⟩ _ T (by omega) (by omega) rfl (show (3 : Int) ≠ 0 by decide)).mono ?_
            rintro e11 w11 ⟨rfl, hb11⟩
            clear c0 f0 z0
            replace B0 := B0.keep hb11
            replace T := T.keep hb11
            replace hbw := hbw.trans (hb11.mono hbw.size)
            clear hb11
            obtain ⟨c0, f0, z0⟩ := B0.all
            go_wp2_with fail
            refine (due_still hN.out 2 ⟨((2 : Nat) : Int), 3, 0, 4, 4, f, la + h⟩ ⟨((2 : Nat) : Int), 3, 0, 4, 4, f, la + h⟩ 0 t _ (T.alloc _) (by omega) (by omega) (by omega) (show (3 : Int) ≠ 0 by decide) (Int.le_refl 0) (step_early _ (show (t : Int) < f by omega)) (by decide)).mono ?_
            rintro e12 w12 ⟨A, C, rfl, T12, hg12⟩
            clear c0 f0 z0
            have n0_1 := Nat.ne_of_lt B0.lt
            have n1_0 := Ne.symm n0_1
            have ng1 := Nat.ne_of_gt T.lt
            replace B0 := (B0.alloc _).only hg12 ng0
            have B1 := (Blk.new w11 _ _).only hg12 ng1
            clear T
            have T := T12
            clear T12
            replace hbw := (hbw.alloc hbw.size _).grown hg12 (by have := hbw.size; simp; omega) (fun _ e => by injection e with e; rw [← e]; exact Hg)
            clear hg12
            obtain ⟨c0, f0, z0⟩ := B0.all
            obtain ⟨c1, f1, z1⟩ := B1.all
            go_wp2_with fail
            refine (of_yes 2 ⟨((2 : Nat) : Int), 3, 0, 4, 4, f, la + h⟩ _ T (by omega) (by omega) rfl (show (3 : Int) ≠ 0 by decide)).mono ?_
            rintro e13 w13 ⟨rfl, hb13⟩
            clear c0 f0 z0
            clear c1 f1 z1
            replace B0 := B0.keep hb13
            replace B1 := B1.keep hb13
            replace T := T.keep hb13
            replace hbw := hbw.trans (hb13.mono hbw.size)
            clear hb13
            obtain ⟨c0, f0, z0⟩ := B0.all
            obtain ⟨c1, f1, z1⟩ := B1.all
            go_wp2
            all_goals
              go_roundw
              case rel => exact ⟨⟨t + 1, la, rfl, by go_num, by omega, by omega, by omega, B0.alloc _, .inl ⟨f, T.alloc _, by omega, by omega⟩⟩, hbw.alloc hbw.size _⟩
              case measure => simp [intOf]; omega
          · by_cases hu : (t : Int) < la + h
            · obtain ⟨c0, f0, z0⟩ := B0.all
              go_wp2_with fail
              refine (of_yes 2 ⟨((2 : Nat) : Int), 3, 0, 4, 4, f, la + h⟩ _ T (by omega) (by omega) rfl (show (3 : Int) ≠ 0 by decide)).mono ?_
              rintro e11 w11 ⟨rfl, hb11⟩
              clear c0 f0 z0
              replace B0 := B0.keep hb11
              replace T := T.keep hb11
              replace hbw := hbw.trans (hb11.mono hbw.size)
              clear hb11
              obtain ⟨c0, f0, z0⟩ := B0.all
              go_wp2_with fail
              refine (due_send hN.out 2 ⟨((2 : Nat) : Int), 3, 0, 4, 4, f, la + h⟩ ⟨((2 : Nat) : Int), 3, 0, 4, 4, (t : Int) + k, la + h⟩ 2 t _ (T.alloc _) (by omega) (by omega) (by omega) (show (3 : Int) ≠ 0 by decide) (Int.le_refl 0) (step_k (show f ≤ (t : Int) by omega) (show (t : Int) < la + h by omega)) (by decide)).mono ?_
              rintro e12 w12 ⟨p2, q2, cur2, rfl, T12, hg12, hr2, h12, B2, r02, r12⟩
              clear c0 f0 z0
              have n0_1 := Nat.ne_of_lt B0.lt
              have n1_0 := Ne.symm n0_1
              have ng1 := Nat.ne_of_gt T.lt
              replace B0 := (B0.alloc _).only hg12 ng0
              have B1 := (Blk.new w11 _ _).only hg12 ng1
              have ng2 : p2 ≠ _ := Nat.ne_of_gt (Nat.lt_of_lt_of_le (T.alloc _).lt hr2)
              clear T
              have T := T12
              clear T12
              replace hbw := (hbw.alloc hbw.size _).grown hg12 (by have := hbw.size; simp; omega) (fun _ e => by injection e with e; rw [← e]; exact Hg)
              clear hg12
              clear hr2
              obtain ⟨c0, f0, z0⟩ := B0.all
              obtain ⟨c1, f1, z1⟩ := B1.all
              obtain ⟨c2, f2, z2⟩ := B2.all
              go_wp2_with fail
              refine (of_yes 2 ⟨((2 : Nat) : Int), 3, 0, 4, 4, (t : Int) + k, la + h⟩ _ T (by omega) (by omega) rfl (show (3 : Int) ≠ 0 by decide)).mono ?_
              rintro e13 w13 ⟨rfl, hb13⟩
              clear c0 f0 z0
              clear c1 f1 z1
              clear c2 f2 z2
              replace B0 := B0.keep hb13
              replace B1 := B1.keep hb13
              replace B2 := B2.keep hb13
              replace T := T.keep hb13
              replace hbw := hbw.trans (hb13.mono hbw.size)
              clear hb13
              obtain ⟨c0, f0, z0⟩ := B0.all
              obtain ⟨c1, f1, z1⟩ := B1.all
              obtain ⟨c2, f2, z2⟩ := B2.all
              go_wp2
              all_goals
                go_roundw
                case rel => exact ⟨⟨t + 1, la, rfl, by go_num, by omega, by omega, by omega, B0.alloc _, .inl ⟨(t : Int) + k, T.alloc _, by omega, by omega⟩⟩, hbw.alloc hbw.size _⟩
                case measure => simp [intOf]; omega
            · obtain ⟨c0, f0, z0⟩ := B0.all
              go_wp2_with fail
              refine (of_yes 2 ⟨((2 : Nat) : Int), 3, 0, 4, 4, f, la + h⟩ _ T (by omega) (by omega) rfl (show (3 : Int) ≠ 0 by decide)).mono ?_
              rintro e11 w11 ⟨rfl, hb11⟩
              clear c0 f0 z0
              replace B0 := B0.keep hb11
              replace T := T.keep hb11
              replace hbw := hbw.trans (hb11.mono hbw.size)
              clear hb11
              obtain ⟨c0, f0, z0⟩ := B0.all
              go_wp2_with fail
              refine (due_send hN.out 2 ⟨((2 : Nat) : Int), 3, 0, 4, 4, f, la + h⟩ ⟨((2 : Nat) : Int), 2, 1, 0, 0, (t : Int) + 2, 0⟩ 1 t _ (T.alloc _) (by omega) (by omega) (by omega) (show (3 : Int) ≠ 0 by decide) (Int.le_refl 0) (step_s (show f ≤ (t : Int) by omega) (show la + h ≤ (t : Int) by omega)) (by decide)).mono ?_
              rintro e12 w12 ⟨p2, q2, cur2, rfl, T12, hg12, hr2, h12, B2, r02, r12⟩
              clear c0 f0 z0
              have n0_1 := Nat.ne_of_lt B0.lt
              have n1_0 := Ne.symm n0_1
              have ng1 := Nat.ne_of_gt T.lt
              replace B0 := (B0.alloc _).only hg12 ng0
              have B1 := (Blk.new w11 _ _).only hg12 ng1
              have ng2 : p2 ≠ _ := Nat.ne_of_gt (Nat.lt_of_lt_of_le (T.alloc _).lt hr2)
              clear T
              have T := T12
              clear T12
              replace hbw := (hbw.alloc hbw.size _).grown hg12 (by have := hbw.size; simp; omega) (fun _ e => by injection e with e; rw [← e]; exact Hg)
              clear hg12
              clear hr2
              obtain ⟨c0, f0, z0⟩ := B0.all
              obtain ⟨c1, f1, z1⟩ := B1.all
              obtain ⟨c2, f2, z2⟩ := B2.all
              go_wp2_with fail
              refine (of_yes 2 ⟨((2 : Nat) : Int), 2, 1, 0, 0, (t : Int) + 2, 0⟩ _ T (by omega) (by omega) rfl (show (2 : Int) ≠ 0 by decide)).mono ?_
              rintro e13 w13 ⟨rfl, hb13⟩
              clear c0 f0 z0
              clear c1 f1 z1
              clear c2 f2 z2
              replace B0 := B0.keep hb13
              replace B1 := B1.keep hb13
              replace B2 := B2.keep hb13
              replace T := T.keep hb13
              replace hbw := hbw.trans (hb13.mono hbw.size)
              clear hb13
              obtain ⟨c0, f0, z0⟩ := B0.all
              obtain ⟨c1, f1, z1⟩ := B1.all
              obtain ⟨c2, f2, z2⟩ := B2.all
              go_wp2
              all_goals
                go_roundw
                case rel => exact ⟨⟨t + 1, la, rfl, by go_num, by omega, by omega, by omega, B0.alloc _, .inr ⟨_, T.alloc _, .inr rfl, (show (0 : Int) ≤ 1 by decide)⟩⟩, hbw.alloc hbw.size _⟩
                case measure => simp [intOf]; omega
      · have hx0 : x.b ≠ 0 := by omega
        have hx3 : x.b ≠ 3 := by omega
        obtain ⟨hyb, hyc⟩ := step_nd (ke := k) (ho := h) (n := (t : Int)) hxb hxc
        have hy0 : (stepF 3 2 k h t x).1.b ≠ 0 := by omega
        have hy3 := ne_b (show (stepF 3 2 k h t x).1.b ≠ 3 by omega)
        have hx3' := ne_b hx3
        have HyB := Lib.hid hyb
        have HyC := Lib.hid hyc
        clear hyb hyc hxb
        by_cases hti : (t : Int) ≤ z
        · obtain ⟨c0, f0, z0⟩ := B0.all
          go_wp2_with fail
          refine (of_yes 2 x _ T (by omega) (by omega) (upd_at _ _ _) hx0).mono ?_
          rintro e11 w11 ⟨rfl, hb11⟩
          clear c0 f0 z0
          replace B0 := B0.keep hb11
          replace T := T.keep hb11
          replace hbw := hbw.trans (hb11.mono hbw.size)
          clear hb11
          obtain ⟨c0, f0, z0⟩ := B0.all
          go_wp2_with fail
          refine (heard_state 2 4 4 t _ (T.alloc _) (by omega) (by omega) (by rw [upd_at]; exact hx0) (by rw [upd_at]; exact hx3) (by omega)).mono ?_
          rintro e12 w12 ⟨rfl, hb12⟩
          clear c0 f0 z0
          have n0_1 := Nat.ne_of_lt B0.lt
          have n1_0 := Ne.symm n0_1
          have ng1 := Nat.ne_of_gt T.lt
          replace B0 := (B0.alloc _).keep hb12
          have B1 := (Blk.new w11 _ _).keep hb12
          replace T := (T.alloc _).keep hb12
          replace hbw := (hbw.alloc hbw.size _).trans (hb12.mono (by have := hbw.size; simp; omega))
          clear hb12
          obtain ⟨c0, f0, z0⟩ := B0.all
          obtain ⟨c1, f1, z1⟩ := B1.all
          go_wp2_with fail
          refine (due_some hN.out 2 x t _ T (by omega) (by omega) (by omega) hx0 hxc).mono ?_
          rintro e13 w13 ⟨v, rfl, T13, hg13⟩
          clear c0 f0 z0
          clear c1 f1 z1
          replace B0 := B0.only hg13 ng0
          replace B1 := B1.only hg13 ng1
          clear T
          have T := T13
          clear T13
          replace hbw := hbw.grown hg13 hbw.size (fun _ e => by injection e with e; rw [← e]; exact Hg)
          clear hg13
          obtain ⟨c0, f0, z0⟩ := B0.all
          obtain ⟨c1, f1, z1⟩ := B1.all
          go_wp2_with fail
          refine (of_yes 2 (stepF 3 2 k h t x).1 _ T (by omega) (by omega) (upd_at _ _ _) hy0).mono ?_
          rintro e14 w14 ⟨rfl, hb14⟩
          clear c0 f0 z0
          clear c1 f1 z1
          replace B0 := B0.keep hb14
          replace B1 := B1.keep hb14
          replace T := T.keep hb14
          replace hbw := hbw.trans (hb14.mono hbw.size)
          clear hb14
          obtain ⟨c0, f0, z0⟩ := B0.all
          obtain ⟨c1, f1, z1⟩ := B1.all
          generalize stepF 3 2 k h t x = sx at *
          go_wp2
          all_goals
            go_roundw
            case rel => exact ⟨⟨t + 1, la, rfl, by go_num, by omega, by omega, by omega, B0.alloc _, .inr ⟨_, T.alloc _, HyB.out, HyC.out⟩⟩, hbw.alloc hbw.size _⟩
            case measure => simp [intOf]; omega
        · obtain ⟨c0, f0, z0⟩ := B0.all
          go_wp2_with fail
          refine (of_yes 2 x _ T (by omega) (by omega) (upd_at _ _ _) hx0).mono ?_
          rintro e11 w11 ⟨rfl, hb11⟩
          clear c0 f0 z0
          replace B0 := B0.keep hb11
          replace T := T.keep hb11
          replace hbw := hbw.trans (hb11.mono hbw.size)
          clear hb11
          obtain ⟨c0, f0, z0⟩ := B0.all
          go_wp2_with fail
          refine (due_some hN.out 2 x t _ (T.alloc _) (by omega) (by omega) (by omega) hx0 hxc).mono ?_
          rintro e12 w12 ⟨v, rfl, T12, hg12⟩
          clear c0 f0 z0
          have n0_1 := Nat.ne_of_lt B0.lt
          have n1_0 := Ne.symm n0_1
          have ng1 := Nat.ne_of_gt T.lt
          replace B0 := (B0.alloc _).only hg12 ng0
          have B1 := (Blk.new w11 _ _).only hg12 ng1
          clear T
          have T := T12
          clear T12
          replace hbw := (hbw.alloc hbw.size _).grown hg12 (by have := hbw.size; simp; omega) (fun _ e => by injection e with e; rw [← e]; exact Hg)
          clear hg12
          obtain ⟨c0, f0, z0⟩ := B0.all
          obtain ⟨c1, f1, z1⟩ := B1.all
          go_wp2_with fail
          refine (of_yes 2 (stepF 3 2 k h t x).1 _ T (by omega) (by omega) (upd_at _ _ _) hy0).mono ?_
          rintro e13 w13 ⟨rfl, hb13⟩
          clear c0 f0 z0
          clear c1 f1 z1
          replace B0 := B0.keep hb13
          replace B1 := B1.keep hb13
          replace T := T.keep hb13
          replace hbw := hbw.trans (hb13.mono hbw.size)
          clear hb13
          obtain ⟨c0, f0, z0⟩ := B0.all
          obtain ⟨c1, f1, z1⟩ := B1.all
          generalize stepF 3 2 k h t x = sx at *
          go_wp2
          all_goals
            go_roundw
            case rel => exact ⟨⟨t + 1, la, rfl, by go_num, by omega, by omega, by omega, B0.alloc _, .inr ⟨_, T.alloc _, HyB.out, HyC.out⟩⟩, hbw.alloc hbw.size _⟩
            case measure => simp [intOf]; omega
    · obtain rfl : t = 160 := by omega
      rcases hD with ⟨f, T, hf1, hf2⟩ | ⟨x, T, hxb, hxc⟩
      · obtain ⟨c0, f0, z0⟩ := B0.all
        go_wp2_with fail
        refine (of_yes 2 ⟨((2 : Nat) : Int), 3, 0, 4, 4, f, la + h⟩ _ T (by omega) (by omega) rfl (show (3 : Int) ≠ 0 by decide)).mono ?_
        rintro e11 w11 ⟨rfl, hb11⟩
        clear c0 f0 z0
        replace B0 := B0.keep hb11
        replace T := T.keep hb11
        replace hbw := hbw.trans (hb11.mono hbw.size)
        clear hb11
        obtain ⟨c0, f0, z0⟩ := B0.all
        go_wp2_with fail
        refine (heard_else 2 5 5 170 _ (T.alloc _) (by omega) (by omega) rfl (by omega) (.inl (show (4 : Int) ≠ 5 by decide))).mono ?_
        rintro e12 w12 ⟨rfl, hb12⟩
        clear c0 f0 z0
        have n0_1 := Nat.ne_of_lt B0.lt
        have n1_0 := Ne.symm n0_1
        have ng1 := Nat.ne_of_gt T.lt
        replace B0 := (B0.alloc _).keep hb12
        have B1 := (Blk.new w11 _ _).keep hb12
        replace T := (T.alloc _).keep hb12
        replace hbw := (hbw.alloc hbw.size _).trans (hb12.mono (by have := hbw.size; simp; omega))
        clear hb12
        obtain ⟨c0, f0, z0⟩ := B0.all
        obtain ⟨c1, f1, z1⟩ := B1.all
        by_cases h160 : 160 ≤ z
        · go_wp2
          go_ret
          exact ⟨rfl, hbw⟩
        · have hend : 160 ≤ la + h + k := by omega
          go_wp2
          go_ret
          exact ⟨rfl, hbw⟩
      · obtain ⟨c0, f0, z0⟩ := B0.all
        have hx0 : x.b ≠ 0 := by omega
        have hx3 : x.b ≠ 3 := by omega
        have hx3' := ne_t hx3
        clear hxb
        go_wp2_with fail
        refine (of_yes 2 x _ T (by omega) (by omega) (upd_at _ _ _) hx0).mono ?_
        rintro e11 w11 ⟨rfl, hb11⟩
        clear c0 f0 z0
        replace B0 := B0.keep hb11
        replace T := T.keep hb11
        replace hbw := hbw.trans (hb11.mono hbw.size)
        clear hb11
        obtain ⟨c0, f0, z0⟩ := B0.all
        go_wp2_with fail
        refine (heard_state 2 5 5 170 _ (T.alloc _) (by omega) (by omega) (by rw [upd_at]; exact hx0) (by rw [upd_at]; exact hx3) (by omega)).mono ?_
        rintro e12 w12 ⟨rfl, hb12⟩
        clear c0 f0 z0
        have n0_1 := Nat.ne_of_lt B0.lt
        have n1_0 := Ne.symm n0_1
        have ng1 := Nat.ne_of_gt T.lt
        replace B0 := (B0.alloc _).keep hb12
        have B1 := (Blk.new w11 _ _).keep hb12
        replace T := (T.alloc _).keep hb12
        replace hbw := (hbw.alloc hbw.size _).trans (hb12.mono (by have := hbw.size; simp; omega))
        clear hb12
        obtain ⟨c0, f0, z0⟩ := B0.all
        obtain ⟨c1, f1, z1⟩ := B1.all
        by_cases h160 : 160 ≤ z
        · go_wp2
          go_ret
          exact ⟨rfl, hbw⟩
        · go_wp2
          go_ret
          exact ⟨rfl, hbw⟩
theorem pk_all (x y z : Int) (x1 : 0 ≤ x) (x2 : x ≤ 255) (y1 : 0 ≤ y) (y2 : y ≤ 255) (z1 : 0 ≤ z) (z2 : z ≤ 255) (w : World) :
    Calls Try.prog 5 #[.int .u8 x, .int .u8 y, .int .u8 z] w fun e w' => e = .returned (.bool true) ∧ Below w.heap.size w w' :=
  pk_any x y z _ _ x1 x2 y1 y2 z1 z2 rfl rfl (by omega) (by omega) (by omega) (by omega) ⟨by omega, by omega, by omega, by omega, by omega, by omega, by omega, by omega⟩ w

end Go.Proofs.Ytglliiijeadhcaa
