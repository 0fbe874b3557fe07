/- What PathWrong does: at all arguments it answers true, and changes nothing that was there. -/
import Derived.Test.YtglliiijeadhcaaPwrong0
namespace Go.Proofs.Ytglliiijeadhcaa
open Go.RowKit
set_option linter.unusedVariables false

set_option maxRecDepth 100000 in
set_option maxHeartbeats 20000000 in
theorem pw_M (tr ba ke ho n : Int) (p : Nat) (p1 : 1 ≤ p) (p2 : p ≤ 32) (n1 : n ≤ 4611686018427387904) (b0 : 0 ≤ ba) (k0 : 0 ≤ ke) (o0 : 0 ≤ ho) (n0 : 0 ≤ n) (w : World) :
    Calls Try.prog 8 #[.int .i64 tr, .int .u64 ba, .int .u64 ke, .int .u64 ho, .int .i64 (p : Int), .int .u64 n] w fun e w' => e = .returned (.bool true) ∧ Below w.heap.size w w' := by
  have hbw := Below.refl w.heap.size w
  go_enter Try.func8, Try.ntmps8
  go_wp2_with fail
  refine (examples_any _).mono ?_
  rintro e1 w1 ⟨rfl, hb1⟩
  replace hbw := hbw.trans (hb1.mono hbw.size)
  clear hb1
  go_wp2_with fail
  refine (new_any tr ba ke ho b0 k0 o0 _).mono ?_
  rintro e2 w2 ⟨⟨v, er, rfl, hK⟩, hb2⟩
  replace hbw := hbw.trans (hb2.mono hbw.size)
  clear hb2
  unfold Rng at hK
  have hK : er = 0 ∧ 1 ≤ tr ∧ tr ≤ 8 ∧ (1 ≤ ba ∧ ba ≤ 1000000) ∧ (1 ≤ ke ∧ ke ≤ 1000000) ∧ (1 ≤ ho ∧ ho ≤ 1000000) ∨ er = 1 ∧ tr < 1 ∧ (1 ≤ ba ∧ ba ≤ 1000000) ∧ (1 ≤ ke ∧ ke ≤ 1000000) ∧ (1 ≤ ho ∧ ho ≤ 1000000) ∨ er = 1 ∧ 8 < tr ∧ (1 ≤ ba ∧ ba ≤ 1000000) ∧ (1 ≤ ke ∧ ke ≤ 1000000) ∧ (1 ≤ ho ∧ ho ≤ 1000000) ∨ er = 1 ∧ ¬ ((1 ≤ ba ∧ ba ≤ 1000000) ∧ (1 ≤ ke ∧ ke ≤ 1000000) ∧ (1 ≤ ho ∧ ho ≤ 1000000)) := by
    rcases hK with ⟨h, N⟩ | h | h
    · exact .inl ⟨h, N.t1, N.t2, ⟨N.b1, N.b2⟩, ⟨N.k1, N.k2⟩, N.o1, N.o2⟩
    · omega
    · exact .inr (.inr (.inr h))
  rcases hK with ⟨rfl, t1, t2, ⟨b1, b2⟩, ⟨k1, k2⟩, o1, o2⟩ | ⟨rfl, t1, ⟨b1, b2⟩, ⟨k1, k2⟩, o1, o2⟩ | ⟨rfl, t1, ⟨b1, b2⟩, ⟨k1, k2⟩, o1, o2⟩ | ⟨rfl, hno⟩
  · go_upto_region 5 with (fail)
    go_cut [16] (fun v16 wc => v16 = .bool true ∧ Below w.heap.size w wc)
    case first =>
      go_wp2
      go_meet
      case rel => exact ⟨rfl, hbw⟩
    case rest =>
      clear hbw
      obtain ⟨rfl, hbw⟩ := hcut
      go_wp2_with fail
      refine (new_ok (tr := 3) (ba := 1) (ke := 1) (ho := 1) ⟨by omega, by omega, by omega, by omega, by omega, by omega, by omega, by omega⟩ _).mono ?_
      rintro e11 w11 ⟨rfl, hb11, T⟩
      have Hg : w.heap.size ≤ wc.heap.size := hbw.size
      replace hbw := hbw.trans (hb11.mono Hg)
      clear hb11
      go_wp2_with fail
      refine (want_ok p n _ T (by omega) (by omega) (by omega) rfl).mono ?_
      rintro e12 w12 ⟨rfl, T12, hg12⟩
      clear T
      have T := T12
      clear T12
      replace hbw := hbw.grown hg12 hbw.size (fun _ e => by injection e with e; rw [← e]; exact Hg)
      clear hg12
      go_wp2_with fail
      refine (of_yes p ⟨p, 2, 0, 0, 0, n, 0⟩ _ T (by omega) (by omega) (upd_at _ _ _) (show (2 : Int) ≠ 0 by decide)).mono ?_
      rintro e13 w13 ⟨rfl, hb13⟩
      replace T := T.keep hb13
      replace hbw := hbw.trans (hb13.mono hbw.size)
      clear hb13
      go_wp2_with fail
      refine (due_send ⟨by omega, by omega, by omega, by omega, by omega, by omega, by omega, by omega⟩ p ⟨p, 2, 0, 0, 0, n, 0⟩ ⟨p, 2, 1, 0, 0, n + 1, 0⟩ 1 n _ (T.alloc _) (by omega) (by omega) (by omega) (show (2 : Int) ≠ 0 by decide) (Int.le_refl 0) (wrong_step p n) (by decide)).mono ?_
      rintro e14 w14 ⟨p1, q1, cur1, rfl, T14, hg14, hr1, h11, B1, r01, r11⟩
      have ng1 : p1 ≠ _ := Nat.ne_of_gt (Nat.lt_of_lt_of_le (T.alloc _).lt hr1)
      clear T
      have T := T14
      clear T14
      replace hbw := (hbw.alloc hbw.size _).grown hg14 (by have := hbw.size; simp; omega) (fun _ e => by injection e with e; rw [← e]; exact Hg)
      clear hg14
      clear hr1
      obtain ⟨c1, f1, z1⟩ := B1.all
      go_wp2_with fail
      refine (lost_yes p _ T (by omega) (by omega) (by rw [upd_at]; exact (show (2 : Int) ≠ 0 by decide))).mono ?_
      rintro e15 w15 ⟨rfl, T15, hg15⟩
      clear c1 f1 z1
      replace B1 := B1.only hg15 ng1
      clear T
      have T := T15
      clear T15
      replace hbw := hbw.grown hg15 hbw.size (fun _ e => by injection e with e; rw [← e]; exact Hg)
      clear hg15
      obtain ⟨c1, f1, z1⟩ := B1.all
      rw [upd_upd, upd_zero] at T
      go_wp2_with fail
      refine (all_none _ T).mono ?_
      rintro e16 w16 ⟨A9, C9, rfl, hb16⟩
      clear c1 f1 z1
      replace B1 := B1.keep hb16
      replace T := T.keep hb16
      replace hbw := hbw.trans (hb16.mono hbw.size)
      clear hb16
      obtain ⟨c1, f1, z1⟩ := B1.all
      go_wp2
      go_ret
      exact ⟨rfl, hbw⟩
  · go_upto_region 5 with (fail)
    go_cut [16] (fun v16 wc => v16 = .bool true ∧ Below w.heap.size w wc)
    case first =>
      go_wp2
      go_meet
      case rel => exact ⟨rfl, hbw⟩
    case rest =>
      clear hbw
      obtain ⟨rfl, hbw⟩ := hcut
      go_wp2_with fail
      refine (new_ok (tr := 3) (ba := 1) (ke := 1) (ho := 1) ⟨by omega, by omega, by omega, by omega, by omega, by omega, by omega, by omega⟩ _).mono ?_
      rintro e11 w11 ⟨rfl, hb11, T⟩
      have Hg : w.heap.size ≤ wc.heap.size := hbw.size
      replace hbw := hbw.trans (hb11.mono Hg)
      clear hb11
      go_wp2_with fail
      refine (want_ok p n _ T (by omega) (by omega) (by omega) rfl).mono ?_
      rintro e12 w12 ⟨rfl, T12, hg12⟩
      clear T
      have T := T12
      clear T12
      replace hbw := hbw.grown hg12 hbw.size (fun _ e => by injection e with e; rw [← e]; exact Hg)
      clear hg12
      go_wp2_with fail
      refine (of_yes p ⟨p, 2, 0, 0, 0, n, 0⟩ _ T (by omega) (by omega) (upd_at _ _ _) (show (2 : Int) ≠ 0 by decide)).mono ?_
      rintro e13 w13 ⟨rfl, hb13⟩
      replace T := T.keep hb13
      replace hbw := hbw.trans (hb13.mono hbw.size)
      clear hb13
      go_wp2_with fail
      refine (due_send ⟨by omega, by omega, by omega, by omega, by omega, by omega, by omega, by omega⟩ p ⟨p, 2, 0, 0, 0, n, 0⟩ ⟨p, 2, 1, 0, 0, n + 1, 0⟩ 1 n _ (T.alloc _) (by omega) (by omega) (by omega) (show (2 : Int) ≠ 0 by decide) (Int.le_refl 0) (wrong_step p n) (by decide)).mono ?_
      rintro e14 w14 ⟨p1, q1, cur1, rfl, T14, hg14, hr1, h11, B1, r01, r11⟩
      have ng1 : p1 ≠ _ := Nat.ne_of_gt (Nat.lt_of_lt_of_le (T.alloc _).lt hr1)
      clear T
      have T := T14
      clear T14
      replace hbw := (hbw.alloc hbw.size _).grown hg14 (by have := hbw.size; simp; omega) (fun _ e => by injection e with e; rw [← e]; exact Hg)
      clear hg14
      clear hr1
      obtain ⟨c1, f1, z1⟩ := B1.all
      go_wp2_with fail
      refine (lost_yes p _ T (by omega) (by omega) (by rw [upd_at]; exact (show (2 : Int) ≠ 0 by decide))).mono ?_
      rintro e15 w15 ⟨rfl, T15, hg15⟩
      clear c1 f1 z1
      replace B1 := B1.only hg15 ng1
      clear T
      have T := T15
      clear T15
      replace hbw := hbw.grown hg15 hbw.size (fun _ e => by injection e with e; rw [← e]; exact Hg)
      clear hg15
      obtain ⟨c1, f1, z1⟩ := B1.all
      rw [upd_upd, upd_zero] at T
      go_wp2_with fail
      refine (all_none _ T).mono ?_
      rintro e16 w16 ⟨A9, C9, rfl, hb16⟩
      clear c1 f1 z1
      replace B1 := B1.keep hb16
      replace T := T.keep hb16
      replace hbw := hbw.trans (hb16.mono hbw.size)
      clear hb16
      obtain ⟨c1, f1, z1⟩ := B1.all
      go_wp2
      go_ret
      exact ⟨rfl, hbw⟩
  · have ht8 : decide (tr ≤ 8) = false := by simp; omega
    go_upto_region 5 with (fail)
    go_cut [16] (fun v16 wc => v16 = .bool true ∧ Below w.heap.size w wc)
    case first =>
      go_wp2
      go_meet
      case rel => exact ⟨rfl, hbw⟩
    case rest =>
      clear hbw
      obtain ⟨rfl, hbw⟩ := hcut
      go_wp2_with fail
      refine (new_ok (tr := 3) (ba := 1) (ke := 1) (ho := 1) ⟨by omega, by omega, by omega, by omega, by omega, by omega, by omega, by omega⟩ _).mono ?_
      rintro e11 w11 ⟨rfl, hb11, T⟩
      have Hg : w.heap.size ≤ wc.heap.size := hbw.size
      replace hbw := hbw.trans (hb11.mono Hg)
      clear hb11
      go_wp2_with fail
      refine (want_ok p n _ T (by omega) (by omega) (by omega) rfl).mono ?_
      rintro e12 w12 ⟨rfl, T12, hg12⟩
      clear T
      have T := T12
      clear T12
      replace hbw := hbw.grown hg12 hbw.size (fun _ e => by injection e with e; rw [← e]; exact Hg)
      clear hg12
      go_wp2_with fail
      refine (of_yes p ⟨p, 2, 0, 0, 0, n, 0⟩ _ T (by omega) (by omega) (upd_at _ _ _) (show (2 : Int) ≠ 0 by decide)).mono ?_
      rintro e13 w13 ⟨rfl, hb13⟩
      replace T := T.keep hb13
      replace hbw := hbw.trans (hb13.mono hbw.size)
      clear hb13
      go_wp2_with fail
      refine (due_send ⟨by omega, by omega, by omega, by omega, by omega, by omega, by omega, by omega⟩ p ⟨p, 2, 0, 0, 0, n, 0⟩ ⟨p, 2, 1, 0, 0, n + 1, 0⟩ 1 n _ (T.alloc _) (by omega) (by omega) (by omega) (show (2 : Int) ≠ 0 by decide) (Int.le_refl 0) (wrong_step p n) (by decide)).mono ?_
      rintro e14 w14 ⟨p1, q1, cur1, rfl, T14, hg14, hr1, h11, B1, r01, r11⟩
      have ng1 : p1 ≠ _ := Nat.ne_of_gt (Nat.lt_of_lt_of_le (T.alloc _).lt hr1)
      clear T
      have T := T14
      clear T14
      replace hbw := (hbw.alloc hbw.size _).grown hg14 (by have := hbw.size; simp; omega) (fun _ e => by injection e with e; rw [← e]; exact Hg)
      clear hg14
      clear hr1
      obtain ⟨c1, f1, z1⟩ := B1.all
      go_wp2_with fail
      refine (lost_yes p _ T (by omega) (by omega) (by rw [upd_at]; exact (show (2 : Int) ≠ 0 by decide))).mono ?_
      rintro e15 w15 ⟨rfl, T15, hg15⟩
      clear c1 f1 z1
      replace B1 := B1.only hg15 ng1
      clear T
      have T := T15
      clear T15
      replace hbw := hbw.grown hg15 hbw.size (fun _ e => by injection e with e; rw [← e]; exact Hg)
      clear hg15
      obtain ⟨c1, f1, z1⟩ := B1.all
      rw [upd_upd, upd_zero] at T
      go_wp2_with fail
      refine (all_none _ T).mono ?_
      rintro e16 w16 ⟨A9, C9, rfl, hb16⟩
      clear c1 f1 z1
      replace B1 := B1.keep hb16
      replace T := T.keep hb16
      replace hbw := hbw.trans (hb16.mono hbw.size)
      clear hb16
      obtain ⟨c1, f1, z1⟩ := B1.all
      go_wp2
      go_ret
      exact ⟨rfl, hbw⟩
  · go_upto_region 5 with (fail)
    go_cut [16] (fun v16 wc => v16 = .bool false ∧ Below w.heap.size w wc)
    case first =>
      have Hno := Lib.hid hno
      clear hno
      go_wp2
      all_goals go_meet
      all_goals exact ⟨congrArg Value.bool (by have := Hno.out; first | (simp; done) | (simp; omega)), hbw⟩
    case rest =>
      clear hbw
      obtain ⟨rfl, hbw⟩ := hcut
      go_wp2_with fail
      refine (new_ok (tr := 3) (ba := 1) (ke := 1) (ho := 1) ⟨by omega, by omega, by omega, by omega, by omega, by omega, by omega, by omega⟩ _).mono ?_
      rintro e11 w11 ⟨rfl, hb11, T⟩
      have Hg : w.heap.size ≤ wc.heap.size := hbw.size
      replace hbw := hbw.trans (hb11.mono Hg)
      clear hb11
      go_wp2_with fail
      refine (want_ok p n _ T (by omega) (by omega) (by omega) rfl).mono ?_
      rintro e12 w12 ⟨rfl, T12, hg12⟩
      clear T
      have T := T12
      clear T12
      replace hbw := hbw.grown hg12 hbw.size (fun _ e => by injection e with e; rw [← e]; exact Hg)
      clear hg12
      go_wp2_with fail
      refine (of_yes p ⟨p, 2, 0, 0, 0, n, 0⟩ _ T (by omega) (by omega) (upd_at _ _ _) (show (2 : Int) ≠ 0 by decide)).mono ?_
      rintro e13 w13 ⟨rfl, hb13⟩
      replace T := T.keep hb13
      replace hbw := hbw.trans (hb13.mono hbw.size)
      clear hb13
      go_wp2_with fail
      refine (due_send ⟨by omega, by omega, by omega, by omega, by omega, by omega, by omega, by omega⟩ p ⟨p, 2, 0, 0, 0, n, 0⟩ ⟨p, 2, 1, 0, 0, n + 1, 0⟩ 1 n _ (T.alloc _) (by omega) (by omega) (by omega) (show (2 : Int) ≠ 0 by decide) (Int.le_refl 0) (wrong_step p n) (by decide)).mono ?_
      rintro e14 w14 ⟨p1, q1, cur1, rfl, T14, hg14, hr1, h11, B1, r01, r11⟩
      have ng1 : p1 ≠ _ := Nat.ne_of_gt (Nat.lt_of_lt_of_le (T.alloc _).lt hr1)
      clear T
      have T := T14
      clear T14
      replace hbw := (hbw.alloc hbw.size _).grown hg14 (by have := hbw.size; simp; omega) (fun _ e => by injection e with e; rw [← e]; exact Hg)
      clear hg14
      clear hr1
      obtain ⟨c1, f1, z1⟩ := B1.all
      go_wp2_with fail
      refine (lost_yes p _ T (by omega) (by omega) (by rw [upd_at]; exact (show (2 : Int) ≠ 0 by decide))).mono ?_
      rintro e15 w15 ⟨rfl, T15, hg15⟩
      clear c1 f1 z1
      replace B1 := B1.only hg15 ng1
      clear T
      have T := T15
      clear T15
      replace hbw := hbw.grown hg15 hbw.size (fun _ e => by injection e with e; rw [← e]; exact Hg)
      clear hg15
      obtain ⟨c1, f1, z1⟩ := B1.all
      rw [upd_upd, upd_zero] at T
      go_wp2_with fail
      refine (all_none _ T).mono ?_
      rintro e16 w16 ⟨A9, C9, rfl, hb16⟩
      clear c1 f1 z1
      replace B1 := B1.keep hb16
      replace T := T.keep hb16
      replace hbw := hbw.trans (hb16.mono hbw.size)
      clear hb16
      obtain ⟨c1, f1, z1⟩ := B1.all
      go_wp2
      go_ret
      exact ⟨rfl, hbw⟩

set_option maxRecDepth 100000 in
set_option maxHeartbeats 20000000 in
theorem pw_R (tr ba ke ho n : Int) (p : Nat) (p1 : 1 ≤ p) (p2 : p ≤ 32) (n1 : 4611686018427387904 < n) (b0 : 0 ≤ ba) (k0 : 0 ≤ ke) (o0 : 0 ≤ ho) (n0 : 0 ≤ n) (w : World) :
    Calls Try.prog 8 #[.int .i64 tr, .int .u64 ba, .int .u64 ke, .int .u64 ho, .int .i64 (p : Int), .int .u64 n] w fun e w' => e = .returned (.bool true) ∧ Below w.heap.size w w' := by
  have hn8 : decide (n ≤ 4611686018427387904) = false := by simp; omega
  have hbw := Below.refl w.heap.size w
  go_enter Try.func8, Try.ntmps8
  go_wp2_with fail
  refine (examples_any _).mono ?_
  rintro e1 w1 ⟨rfl, hb1⟩
  replace hbw := hbw.trans (hb1.mono hbw.size)
  clear hb1
  go_wp2_with fail
  refine (new_any tr ba ke ho b0 k0 o0 _).mono ?_
  rintro e2 w2 ⟨⟨v, er, rfl, hK⟩, hb2⟩
  replace hbw := hbw.trans (hb2.mono hbw.size)
  clear hb2
  unfold Rng at hK
  have hK : er = 0 ∧ 1 ≤ tr ∧ tr ≤ 8 ∧ (1 ≤ ba ∧ ba ≤ 1000000) ∧ (1 ≤ ke ∧ ke ≤ 1000000) ∧ (1 ≤ ho ∧ ho ≤ 1000000) ∨ er = 1 ∧ tr < 1 ∧ (1 ≤ ba ∧ ba ≤ 1000000) ∧ (1 ≤ ke ∧ ke ≤ 1000000) ∧ (1 ≤ ho ∧ ho ≤ 1000000) ∨ er = 1 ∧ 8 < tr ∧ (1 ≤ ba ∧ ba ≤ 1000000) ∧ (1 ≤ ke ∧ ke ≤ 1000000) ∧ (1 ≤ ho ∧ ho ≤ 1000000) ∨ er = 1 ∧ ¬ ((1 ≤ ba ∧ ba ≤ 1000000) ∧ (1 ≤ ke ∧ ke ≤ 1000000) ∧ (1 ≤ ho ∧ ho ≤ 1000000)) := by
    rcases hK with ⟨h, N⟩ | h | h
    · exact .inl ⟨h, N.t1, N.t2, ⟨N.b1, N.b2⟩, ⟨N.k1, N.k2⟩, N.o1, N.o2⟩
    · omega
    · exact .inr (.inr (.inr h))
  rcases hK with ⟨rfl, t1, t2, ⟨b1, b2⟩, ⟨k1, k2⟩, o1, o2⟩ | ⟨rfl, t1, ⟨b1, b2⟩, ⟨k1, k2⟩, o1, o2⟩ | ⟨rfl, t1, ⟨b1, b2⟩, ⟨k1, k2⟩, o1, o2⟩ | ⟨rfl, hno⟩
  · go_upto_region 5 with (fail)
    go_cut [16] (fun v16 wc => v16 = .bool true ∧ Below w.heap.size w wc)
    case first =>
      go_wp2
      go_meet
      case rel => exact ⟨rfl, hbw⟩
    case rest =>
      clear hbw
      obtain ⟨rfl, hbw⟩ := hcut
      go_wp2_with fail
      refine (new_ok (tr := 3) (ba := 1) (ke := 1) (ho := 1) ⟨by omega, by omega, by omega, by omega, by omega, by omega, by omega, by omega⟩ _).mono ?_
      rintro e11 w11 ⟨rfl, hb11, T⟩
      have Hg : w.heap.size ≤ wc.heap.size := hbw.size
      replace hbw := hbw.trans (hb11.mono Hg)
      clear hb11
      go_wp2_with fail
      refine (want_bad _ (p : Int) n _ (by omega)).mono ?_
      rintro e12 w12 ⟨rfl, rfl⟩
      go_wp2_with fail
      refine (of_none p _ T (by omega) (by omega) rfl).mono ?_
      rintro e13 w13 ⟨rfl, hb13⟩
      replace T := T.keep hb13
      replace hbw := hbw.trans (hb13.mono hbw.size)
      clear hb13
      go_wp2_with fail
      refine (due_late _ n _ (by omega)).mono ?_
      rintro e14 w14 ⟨rfl, rfl⟩
      go_wp2_with fail
      refine (lost_none p _ (T.alloc _) (by omega) (by omega) rfl).mono ?_
      rintro e15 w15 ⟨rfl, hb15⟩
      replace T := (T.alloc _).keep hb15
      replace hbw := (hbw.alloc hbw.size _).trans (hb15.mono (by have := hbw.size; simp; omega))
      clear hb15
      go_wp2_with fail
      refine (all_none _ T).mono ?_
      rintro e16 w16 ⟨A9, C9, rfl, hb16⟩
      replace T := T.keep hb16
      replace hbw := hbw.trans (hb16.mono hbw.size)
      clear hb16
      go_wp2
      go_ret
      exact ⟨rfl, hbw⟩
  · go_upto_region 5 with (fail)
    go_cut [16] (fun v16 wc => v16 = .bool true ∧ Below w.heap.size w wc)
    case first =>
      go_wp2
      go_meet
      case rel => exact ⟨rfl, hbw⟩
    case rest =>
      clear hbw
      obtain ⟨rfl, hbw⟩ := hcut
      go_wp2_with fail
      refine (new_ok (tr := 3) (ba := 1) (ke := 1) (ho := 1) ⟨by omega, by omega, by omega, by omega, by omega, by omega, by omega, by omega⟩ _).mono ?_
      rintro e11 w11 ⟨rfl, hb11, T⟩
      have Hg : w.heap.size ≤ wc.heap.size := hbw.size
      replace hbw := hbw.trans (hb11.mono Hg)
      clear hb11
      go_wp2_with fail
      refine (want_bad _ (p : Int) n _ (by omega)).mono ?_
      rintro e12 w12 ⟨rfl, rfl⟩
      go_wp2_with fail
      refine (of_none p _ T (by omega) (by omega) rfl).mono ?_
      rintro e13 w13 ⟨rfl, hb13⟩
      replace T := T.keep hb13
      replace hbw := hbw.trans (hb13.mono hbw.size)
      clear hb13
      go_wp2_with fail
      refine (due_late _ n _ (by omega)).mono ?_
      rintro e14 w14 ⟨rfl, rfl⟩
      go_wp2_with fail
      refine (lost_none p _ (T.alloc _) (by omega) (by omega) rfl).mono ?_
      rintro e15 w15 ⟨rfl, hb15⟩
      replace T := (T.alloc _).keep hb15
      replace hbw := (hbw.alloc hbw.size _).trans (hb15.mono (by have := hbw.size; simp; omega))
      clear hb15
      go_wp2_with fail
      refine (all_none _ T).mono ?_
      rintro e16 w16 ⟨A9, C9, rfl, hb16⟩
      replace T := T.keep hb16
      replace hbw := hbw.trans (hb16.mono hbw.size)
      clear hb16
      go_wp2
      go_ret
      exact ⟨rfl, hbw⟩
  · have ht8 : decide (tr ≤ 8) = false := by simp; omega
    go_upto_region 5 with (fail)
    go_cut [16] (fun v16 wc => v16 = .bool true ∧ Below w.heap.size w wc)
    case first =>
      go_wp2
      go_meet
      case rel => exact ⟨rfl, hbw⟩
    case rest =>
      clear hbw
      obtain ⟨rfl, hbw⟩ := hcut
      go_wp2_with fail
      refine (new_ok (tr := 3) (ba := 1) (ke := 1) (ho := 1) ⟨by omega, by omega, by omega, by omega, by omega, by omega, by omega, by omega⟩ _).mono ?_
      rintro e11 w11 ⟨rfl, hb11, T⟩
      have Hg : w.heap.size ≤ wc.heap.size := hbw.size
      replace hbw := hbw.trans (hb11.mono Hg)
      clear hb11
      go_wp2_with fail
      refine (want_bad _ (p : Int) n _ (by omega)).mono ?_
      rintro e12 w12 ⟨rfl, rfl⟩
      go_wp2_with fail
      refine (of_none p _ T (by omega) (by omega) rfl).mono ?_
      rintro e13 w13 ⟨rfl, hb13⟩
      replace T := T.keep hb13
      replace hbw := hbw.trans (hb13.mono hbw.size)
      clear hb13
      go_wp2_with fail
      refine (due_late _ n _ (by omega)).mono ?_
      rintro e14 w14 ⟨rfl, rfl⟩
      go_wp2_with fail
      refine (lost_none p _ (T.alloc _) (by omega) (by omega) rfl).mono ?_
      rintro e15 w15 ⟨rfl, hb15⟩
      replace T := (T.alloc _).keep hb15
      replace hbw := (hbw.alloc hbw.size _).trans (hb15.mono (by have := hbw.size; simp; omega))
      clear hb15
      go_wp2_with fail
      refine (all_none _ T).mono ?_
      rintro e16 w16 ⟨A9, C9, rfl, hb16⟩
      replace T := T.keep hb16
      replace hbw := hbw.trans (hb16.mono hbw.size)
      clear hb16
      go_wp2
      go_ret
      exact ⟨rfl, hbw⟩
  · go_upto_region 5 with (fail)
    go_cut [16] (fun v16 wc => v16 = .bool false ∧ Below w.heap.size w wc)
    case first =>
      have Hno := Lib.hid hno
      clear hno
      go_wp2
      all_goals go_meet
      all_goals exact ⟨congrArg Value.bool (by have := Hno.out; first | (simp; done) | (simp; omega)), hbw⟩
    case rest =>
      clear hbw
      obtain ⟨rfl, hbw⟩ := hcut
      go_wp2_with fail
      refine (new_ok (tr := 3) (ba := 1) (ke := 1) (ho := 1) ⟨by omega, by omega, by omega, by omega, by omega, by omega, by omega, by omega⟩ _).mono ?_
      rintro e11 w11 ⟨rfl, hb11, T⟩
      have Hg : w.heap.size ≤ wc.heap.size := hbw.size
      replace hbw := hbw.trans (hb11.mono Hg)
      clear hb11
      go_wp2_with fail
      refine (want_bad _ (p : Int) n _ (by omega)).mono ?_
      rintro e12 w12 ⟨rfl, rfl⟩
      go_wp2_with fail
      refine (of_none p _ T (by omega) (by omega) rfl).mono ?_
      rintro e13 w13 ⟨rfl, hb13⟩
      replace T := T.keep hb13
      replace hbw := hbw.trans (hb13.mono hbw.size)
      clear hb13
      go_wp2_with fail
      refine (due_late _ n _ (by omega)).mono ?_
      rintro e14 w14 ⟨rfl, rfl⟩
      go_wp2_with fail
      refine (lost_none p _ (T.alloc _) (by omega) (by omega) rfl).mono ?_
      rintro e15 w15 ⟨rfl, hb15⟩
      replace T := (T.alloc _).keep hb15
      replace hbw := (hbw.alloc hbw.size _).trans (hb15.mono (by have := hbw.size; simp; omega))
      clear hb15
      go_wp2_with fail
      refine (all_none _ T).mono ?_
      rintro e16 w16 ⟨A9, C9, rfl, hb16⟩
      replace T := T.keep hb16
      replace hbw := hbw.trans (hb16.mono hbw.size)
      clear hb16
      go_wp2
      go_ret
      exact ⟨rfl, hbw⟩

set_option maxRecDepth 100000 in
set_option maxHeartbeats 20000000 in
theorem pw_P1 (tr ba ke ho n : Int) (q : Int) (p1 : q < 1) (n1 : n ≤ 4611686018427387904) (b0 : 0 ≤ ba) (k0 : 0 ≤ ke) (o0 : 0 ≤ ho) (n0 : 0 ≤ n) (w : World) :
    Calls Try.prog 8 #[.int .i64 tr, .int .u64 ba, .int .u64 ke, .int .u64 ho, .int .i64 q, .int .u64 n] w fun e w' => e = .returned (.bool true) ∧ Below w.heap.size w w' := by
  have hbw := Below.refl w.heap.size w
  go_enter Try.func8, Try.ntmps8
  go_wp2_with fail
  refine (examples_any _).mono ?_
  rintro e1 w1 ⟨rfl, hb1⟩
  replace hbw := hbw.trans (hb1.mono hbw.size)
  clear hb1
  go_wp2_with fail
  refine (new_any tr ba ke ho b0 k0 o0 _).mono ?_
  rintro e2 w2 ⟨⟨v, er, rfl, hK⟩, hb2⟩
  replace hbw := hbw.trans (hb2.mono hbw.size)
  clear hb2
  unfold Rng at hK
  have hK : er = 0 ∧ 1 ≤ tr ∧ tr ≤ 8 ∧ (1 ≤ ba ∧ ba ≤ 1000000) ∧ (1 ≤ ke ∧ ke ≤ 1000000) ∧ (1 ≤ ho ∧ ho ≤ 1000000) ∨ er = 1 ∧ tr < 1 ∧ (1 ≤ ba ∧ ba ≤ 1000000) ∧ (1 ≤ ke ∧ ke ≤ 1000000) ∧ (1 ≤ ho ∧ ho ≤ 1000000) ∨ er = 1 ∧ 8 < tr ∧ (1 ≤ ba ∧ ba ≤ 1000000) ∧ (1 ≤ ke ∧ ke ≤ 1000000) ∧ (1 ≤ ho ∧ ho ≤ 1000000) ∨ er = 1 ∧ ¬ ((1 ≤ ba ∧ ba ≤ 1000000) ∧ (1 ≤ ke ∧ ke ≤ 1000000) ∧ (1 ≤ ho ∧ ho ≤ 1000000)) := by
    rcases hK with ⟨h, N⟩ | h | h
    · exact .inl ⟨h, N.t1, N.t2, ⟨N.b1, N.b2⟩, ⟨N.k1, N.k2⟩, N.o1, N.o2⟩
    · omega
    · exact .inr (.inr (.inr h))
  rcases hK with ⟨rfl, t1, t2, ⟨b1, b2⟩, ⟨k1, k2⟩, o1, o2⟩ | ⟨rfl, t1, ⟨b1, b2⟩, ⟨k1, k2⟩, o1, o2⟩ | ⟨rfl, t1, ⟨b1, b2⟩, ⟨k1, k2⟩, o1, o2⟩ | ⟨rfl, hno⟩
  · go_upto_region 5 with (fail)
    go_cut [16] (fun v16 wc => v16 = .bool true ∧ Below w.heap.size w wc)
    case first =>
      go_wp2
      go_meet
      case rel => exact ⟨rfl, hbw⟩
    case rest =>
      clear hbw
      obtain ⟨rfl, hbw⟩ := hcut
      go_wp2_with fail
      refine (new_ok (tr := 3) (ba := 1) (ke := 1) (ho := 1) ⟨by omega, by omega, by omega, by omega, by omega, by omega, by omega, by omega⟩ _).mono ?_
      rintro e11 w11 ⟨rfl, hb11, T⟩
      have Hg : w.heap.size ≤ wc.heap.size := hbw.size
      replace hbw := hbw.trans (hb11.mono Hg)
      clear hb11
      go_wp2_with fail
      refine (want_bad _ q n _ (by omega)).mono ?_
      rintro e12 w12 ⟨rfl, rfl⟩
      go_wp2_with fail
      refine (of_bad _ q _ (by omega)).mono ?_
      rintro e13 w13 ⟨rfl, hb13⟩
      replace T := T.keep hb13
      replace hbw := hbw.trans (hb13.mono hbw.size)
      clear hb13
      go_wp2_with fail
      refine (due_none ⟨by omega, by omega, by omega, by omega, by omega, by omega, by omega, by omega⟩ n _ (T.alloc _) (by omega) (by omega)).mono ?_
      rintro e14 w14 ⟨A, C, rfl, T14, hg14⟩
      clear T
      have T := T14
      clear T14
      replace hbw := (hbw.alloc hbw.size _).grown hg14 (by have := hbw.size; simp; omega) (fun _ e => by injection e with e; rw [← e]; exact Hg)
      clear hg14
      go_wp2_with fail
      refine (lost_bad _ q _ (by omega)).mono ?_
      rintro e15 w15 ⟨rfl, hb15⟩
      replace T := T.keep hb15
      replace hbw := hbw.trans (hb15.mono hbw.size)
      clear hb15
      go_wp2_with fail
      refine (all_none _ T).mono ?_
      rintro e16 w16 ⟨A9, C9, rfl, hb16⟩
      replace T := T.keep hb16
      replace hbw := hbw.trans (hb16.mono hbw.size)
      clear hb16
      go_wp2
      go_ret
      exact ⟨rfl, hbw⟩
  · go_upto_region 5 with (fail)
    go_cut [16] (fun v16 wc => v16 = .bool true ∧ Below w.heap.size w wc)
    case first =>
      go_wp2
      go_meet
      case rel => exact ⟨rfl, hbw⟩
    case rest =>
      clear hbw
      obtain ⟨rfl, hbw⟩ := hcut
      go_wp2_with fail
      refine (new_ok (tr := 3) (ba := 1) (ke := 1) (ho := 1) ⟨by omega, by omega, by omega, by omega, by omega, by omega, by omega, by omega⟩ _).mono ?_
      rintro e11 w11 ⟨rfl, hb11, T⟩
      have Hg : w.heap.size ≤ wc.heap.size := hbw.size
      replace hbw := hbw.trans (hb11.mono Hg)
      clear hb11
      go_wp2_with fail
      refine (want_bad _ q n _ (by omega)).mono ?_
      rintro e12 w12 ⟨rfl, rfl⟩
      go_wp2_with fail
      refine (of_bad _ q _ (by omega)).mono ?_
      rintro e13 w13 ⟨rfl, hb13⟩
      replace T := T.keep hb13
      replace hbw := hbw.trans (hb13.mono hbw.size)
      clear hb13
      go_wp2_with fail
      refine (due_none ⟨by omega, by omega, by omega, by omega, by omega, by omega, by omega, by omega⟩ n _ (T.alloc _) (by omega) (by omega)).mono ?_
      rintro e14 w14 ⟨A, C, rfl, T14, hg14⟩
      clear T
      have T := T14
      clear T14
      replace hbw := (hbw.alloc hbw.size _).grown hg14 (by have := hbw.size; simp; omega) (fun _ e => by injection e with e; rw [← e]; exact Hg)
      clear hg14
      go_wp2_with fail
      refine (lost_bad _ q _ (by omega)).mono ?_
      rintro e15 w15 ⟨rfl, hb15⟩
      replace T := T.keep hb15
      replace hbw := hbw.trans (hb15.mono hbw.size)
      clear hb15
      go_wp2_with fail
      refine (all_none _ T).mono ?_
      rintro e16 w16 ⟨A9, C9, rfl, hb16⟩
      replace T := T.keep hb16
      replace hbw := hbw.trans (hb16.mono hbw.size)
      clear hb16
      go_wp2
      go_ret
      exact ⟨rfl, hbw⟩
  · have ht8 : decide (tr ≤ 8) = false := by simp; omega
    go_upto_region 5 with (fail)
    go_cut [16] (fun v16 wc => v16 = .bool true ∧ Below w.heap.size w wc)
    case first =>
      go_wp2
      go_meet
      case rel => exact ⟨rfl, hbw⟩
    case rest =>
      clear hbw
      obtain ⟨rfl, hbw⟩ := hcut
      go_wp2_with fail
      refine (new_ok (tr := 3) (ba := 1) (ke := 1) (ho := 1) ⟨by omega, by omega, by omega, by omega, by omega, by omega, by omega, by omega⟩ _).mono ?_
      rintro e11 w11 ⟨rfl, hb11, T⟩
      have Hg : w.heap.size ≤ wc.heap.size := hbw.size
      replace hbw := hbw.trans (hb11.mono Hg)
      clear hb11
      go_wp2_with fail
      refine (want_bad _ q n _ (by omega)).mono ?_
      rintro e12 w12 ⟨rfl, rfl⟩
      go_wp2_with fail
      refine (of_bad _ q _ (by omega)).mono ?_
      rintro e13 w13 ⟨rfl, hb13⟩
      replace T := T.keep hb13
      replace hbw := hbw.trans (hb13.mono hbw.size)
      clear hb13
      go_wp2_with fail
      refine (due_none ⟨by omega, by omega, by omega, by omega, by omega, by omega, by omega, by omega⟩ n _ (T.alloc _) (by omega) (by omega)).mono ?_
      rintro e14 w14 ⟨A, C, rfl, T14, hg14⟩
      clear T
      have T := T14
      clear T14
      replace hbw := (hbw.alloc hbw.size _).grown hg14 (by have := hbw.size; simp; omega) (fun _ e => by injection e with e; rw [← e]; exact Hg)
      clear hg14
      go_wp2_with fail
      refine (lost_bad _ q _ (by omega)).mono ?_
      rintro e15 w15 ⟨rfl, hb15⟩
      replace T := T.keep hb15
      replace hbw := hbw.trans (hb15.mono hbw.size)
      clear hb15
      go_wp2_with fail
      refine (all_none _ T).mono ?_
      rintro e16 w16 ⟨A9, C9, rfl, hb16⟩
      replace T := T.keep hb16
      replace hbw := hbw.trans (hb16.mono hbw.size)
      clear hb16
      go_wp2
      go_ret
      exact ⟨rfl, hbw⟩
  · go_upto_region 5 with (fail)
    go_cut [16] (fun v16 wc => v16 = .bool false ∧ Below w.heap.size w wc)
    case first =>
      have Hno := Lib.hid hno
      clear hno
      go_wp2
      all_goals go_meet
      all_goals exact ⟨congrArg Value.bool (by have := Hno.out; first | (simp; done) | (simp; omega)), hbw⟩
    case rest =>
      clear hbw
      obtain ⟨rfl, hbw⟩ := hcut
      go_wp2_with fail
      refine (new_ok (tr := 3) (ba := 1) (ke := 1) (ho := 1) ⟨by omega, by omega, by omega, by omega, by omega, by omega, by omega, by omega⟩ _).mono ?_
      rintro e11 w11 ⟨rfl, hb11, T⟩
      have Hg : w.heap.size ≤ wc.heap.size := hbw.size
      replace hbw := hbw.trans (hb11.mono Hg)
      clear hb11
      go_wp2_with fail
      refine (want_bad _ q n _ (by omega)).mono ?_
      rintro e12 w12 ⟨rfl, rfl⟩
      go_wp2_with fail
      refine (of_bad _ q _ (by omega)).mono ?_
      rintro e13 w13 ⟨rfl, hb13⟩
      replace T := T.keep hb13
      replace hbw := hbw.trans (hb13.mono hbw.size)
      clear hb13
      go_wp2_with fail
      refine (due_none ⟨by omega, by omega, by omega, by omega, by omega, by omega, by omega, by omega⟩ n _ (T.alloc _) (by omega) (by omega)).mono ?_
      rintro e14 w14 ⟨A, C, rfl, T14, hg14⟩
      clear T
      have T := T14
      clear T14
      replace hbw := (hbw.alloc hbw.size _).grown hg14 (by have := hbw.size; simp; omega) (fun _ e => by injection e with e; rw [← e]; exact Hg)
      clear hg14
      go_wp2_with fail
      refine (lost_bad _ q _ (by omega)).mono ?_
      rintro e15 w15 ⟨rfl, hb15⟩
      replace T := T.keep hb15
      replace hbw := hbw.trans (hb15.mono hbw.size)
      clear hb15
      go_wp2_with fail
      refine (all_none _ T).mono ?_
      rintro e16 w16 ⟨A9, C9, rfl, hb16⟩
      replace T := T.keep hb16
      replace hbw := hbw.trans (hb16.mono hbw.size)
      clear hb16
      go_wp2
      go_ret
      exact ⟨rfl, hbw⟩

set_option maxRecDepth 100000 in
set_option maxHeartbeats 20000000 in
theorem pw_P2 (tr ba ke ho n : Int) (q : Int) (p1 : 32 < q) (n1 : n ≤ 4611686018427387904) (b0 : 0 ≤ ba) (k0 : 0 ≤ ke) (o0 : 0 ≤ ho) (n0 : 0 ≤ n) (w : World) :
    Calls Try.prog 8 #[.int .i64 tr, .int .u64 ba, .int .u64 ke, .int .u64 ho, .int .i64 q, .int .u64 n] w fun e w' => e = .returned (.bool true) ∧ Below w.heap.size w w' := by
  have hbw := Below.refl w.heap.size w
  go_enter Try.func8, Try.ntmps8
  go_wp2_with fail
  refine (examples_any _).mono ?_
  rintro e1 w1 ⟨rfl, hb1⟩
  replace hbw := hbw.trans (hb1.mono hbw.size)
  clear hb1
  go_wp2_with fail
  refine (new_any tr ba ke ho b0 k0 o0 _).mono ?_
  rintro e2 w2 ⟨⟨v, er, rfl, hK⟩, hb2⟩
  replace hbw := hbw.trans (hb2.mono hbw.size)
  clear hb2
  unfold Rng at hK
  have hK : er = 0 ∧ 1 ≤ tr ∧ tr ≤ 8 ∧ (1 ≤ ba ∧ ba ≤ 1000000) ∧ (1 ≤ ke ∧ ke ≤ 1000000) ∧ (1 ≤ ho ∧ ho ≤ 1000000) ∨ er = 1 ∧ tr < 1 ∧ (1 ≤ ba ∧ ba ≤ 1000000) ∧ (1 ≤ ke ∧ ke ≤ 1000000) ∧ (1 ≤ ho ∧ ho ≤ 1000000) ∨ er = 1 ∧ 8 < tr ∧ (1 ≤ ba ∧ ba ≤ 1000000) ∧ (1 ≤ ke ∧ ke ≤ 1000000) ∧ (1 ≤ ho ∧ ho ≤ 1000000) ∨ er = 1 ∧ ¬ ((1 ≤ ba ∧ ba ≤ 1000000) ∧ (1 ≤ ke ∧ ke ≤ 1000000) ∧ (1 ≤ ho ∧ ho ≤ 1000000)) := by
    rcases hK with ⟨h, N⟩ | h | h
    · exact .inl ⟨h, N.t1, N.t2, ⟨N.b1, N.b2⟩, ⟨N.k1, N.k2⟩, N.o1, N.o2⟩
    · omega
    · exact .inr (.inr (.inr h))
  rcases hK with ⟨rfl, t1, t2, ⟨b1, b2⟩, ⟨k1, k2⟩, o1, o2⟩ | ⟨rfl, t1, ⟨b1, b2⟩, ⟨k1, k2⟩, o1, o2⟩ | ⟨rfl, t1, ⟨b1, b2⟩, ⟨k1, k2⟩, o1, o2⟩ | ⟨rfl, hno⟩
  · go_upto_region 5 with (fail)
    go_cut [16] (fun v16 wc => v16 = .bool true ∧ Below w.heap.size w wc)
    case first =>
      go_wp2
      go_meet
      case rel => exact ⟨rfl, hbw⟩
    case rest =>
      clear hbw
      obtain ⟨rfl, hbw⟩ := hcut
      go_wp2_with fail
      refine (new_ok (tr := 3) (ba := 1) (ke := 1) (ho := 1) ⟨by omega, by omega, by omega, by omega, by omega, by omega, by omega, by omega⟩ _).mono ?_
      rintro e11 w11 ⟨rfl, hb11, T⟩
      have Hg : w.heap.size ≤ wc.heap.size := hbw.size
      replace hbw := hbw.trans (hb11.mono Hg)
      clear hb11
      go_wp2_with fail
      refine (want_bad _ q n _ (by omega)).mono ?_
      rintro e12 w12 ⟨rfl, rfl⟩
      go_wp2_with fail
      refine (of_bad _ q _ (by omega)).mono ?_
      rintro e13 w13 ⟨rfl, hb13⟩
      replace T := T.keep hb13
      replace hbw := hbw.trans (hb13.mono hbw.size)
      clear hb13
      go_wp2_with fail
      refine (due_none ⟨by omega, by omega, by omega, by omega, by omega, by omega, by omega, by omega⟩ n _ (T.alloc _) (by omega) (by omega)).mono ?_
      rintro e14 w14 ⟨A, C, rfl, T14, hg14⟩
      clear T
      have T := T14
      clear T14
      replace hbw := (hbw.alloc hbw.size _).grown hg14 (by have := hbw.size; simp; omega) (fun _ e => by injection e with e; rw [← e]; exact Hg)
      clear hg14
      go_wp2_with fail
      refine (lost_bad _ q _ (by omega)).mono ?_
      rintro e15 w15 ⟨rfl, hb15⟩
      replace T := T.keep hb15
      replace hbw := hbw.trans (hb15.mono hbw.size)
      clear hb15
      go_wp2_with fail
      refine (all_none _ T).mono ?_
      rintro e16 w16 ⟨A9, C9, rfl, hb16⟩
      replace T := T.keep hb16
      replace hbw := hbw.trans (hb16.mono hbw.size)
      clear hb16
      go_wp2
      go_ret
      exact ⟨rfl, hbw⟩
  · go_upto_region 5 with (fail)
    go_cut [16] (fun v16 wc => v16 = .bool true ∧ Below w.heap.size w wc)
    case first =>
      go_wp2
      go_meet
      case rel => exact ⟨rfl, hbw⟩
    case rest =>
      clear hbw
      obtain ⟨rfl, hbw⟩ := hcut
      go_wp2_with fail
      refine (new_ok (tr := 3) (ba := 1) (ke := 1) (ho := 1) ⟨by omega, by omega, by omega, by omega, by omega, by omega, by omega, by omega⟩ _).mono ?_
      rintro e11 w11 ⟨rfl, hb11, T⟩
      have Hg : w.heap.size ≤ wc.heap.size := hbw.size
      replace hbw := hbw.trans (hb11.mono Hg)
      clear hb11
      go_wp2_with fail
      refine (want_bad _ q n _ (by omega)).mono ?_
      rintro e12 w12 ⟨rfl, rfl⟩
      go_wp2_with fail
      refine (of_bad _ q _ (by omega)).mono ?_
      rintro e13 w13 ⟨rfl, hb13⟩
      replace T := T.keep hb13
      replace hbw := hbw.trans (hb13.mono hbw.size)
      clear hb13
      go_wp2_with fail
      refine (due_none ⟨by omega, by omega, by omega, by omega, by omega, by omega, by omega, by omega⟩ n _ (T.alloc _) (by omega) (by omega)).mono ?_
      rintro e14 w14 ⟨A, C, rfl, T14, hg14⟩
      clear T
      have T := T14
      clear T14
      replace hbw := (hbw.alloc hbw.size _).grown hg14 (by have := hbw.size; simp; omega) (fun _ e => by injection e with e; rw [← e]; exact Hg)
      clear hg14
      go_wp2_with fail
      refine (lost_bad _ q _ (by omega)).mono ?_
      rintro e15 w15 ⟨rfl, hb15⟩
      replace T := T.keep hb15
      replace hbw := hbw.trans (hb15.mono hbw.size)
      clear hb15
      go_wp2_with fail
      refine (all_none _ T).mono ?_
      rintro e16 w16 ⟨A9, C9, rfl, hb16⟩
      replace T := T.keep hb16
      replace hbw := hbw.trans (hb16.mono hbw.size)
      clear hb16
      go_wp2
      go_ret
      exact ⟨rfl, hbw⟩
  · have ht8 : decide (tr ≤ 8) = false := by simp; omega
    go_upto_region 5 with (fail)
    go_cut [16] (fun v16 wc => v16 = .bool true ∧ Below w.heap.size w wc)
    case first =>
      go_wp2
      go_meet
      case rel => exact ⟨rfl, hbw⟩
    case rest =>
      clear hbw
      obtain ⟨rfl, hbw⟩ := hcut
      go_wp2_with fail
      refine (new_ok (tr := 3) (ba := 1) (ke := 1) (ho := 1) ⟨by omega, by omega, by omega, by omega, by omega, by omega, by omega, by omega⟩ _).mono ?_
      rintro e11 w11 ⟨rfl, hb11, T⟩
      have Hg : w.heap.size ≤ wc.heap.size := hbw.size
      replace hbw := hbw.trans (hb11.mono Hg)
      clear hb11
      go_wp2_with fail
      refine (want_bad _ q n _ (by omega)).mono ?_
      rintro e12 w12 ⟨rfl, rfl⟩
      go_wp2_with fail
      refine (of_bad _ q _ (by omega)).mono ?_
      rintro e13 w13 ⟨rfl, hb13⟩
      replace T := T.keep hb13
      replace hbw := hbw.trans (hb13.mono hbw.size)
      clear hb13
      go_wp2_with fail
      refine (due_none ⟨by omega, by omega, by omega, by omega, by omega, by omega, by omega, by omega⟩ n _ (T.alloc _) (by omega) (by omega)).mono ?_
      rintro e14 w14 ⟨A, C, rfl, T14, hg14⟩
      clear T
      have T := T14
      clear T14
      replace hbw := (hbw.alloc hbw.size _).grown hg14 (by have := hbw.size; simp; omega) (fun _ e => by injection e with e; rw [← e]; exact Hg)
      clear hg14
      go_wp2_with fail
      refine (lost_bad _ q _ (by omega)).mono ?_
      rintro e15 w15 ⟨rfl, hb15⟩
      replace T := T.keep hb15
      replace hbw := hbw.trans (hb15.mono hbw.size)
      clear hb15
      go_wp2_with fail
      refine (all_none _ T).mono ?_
      rintro e16 w16 ⟨A9, C9, rfl, hb16⟩
      replace T := T.keep hb16
      replace hbw := hbw.trans (hb16.mono hbw.size)
      clear hb16
      go_wp2
      go_ret
      exact ⟨rfl, hbw⟩
  · go_upto_region 5 with (fail)
    go_cut [16] (fun v16 wc => v16 = .bool false ∧ Below w.heap.size w wc)
    case first =>
      have Hno := Lib.hid hno
      clear hno
      go_wp2
      all_goals go_meet
      all_goals exact ⟨congrArg Value.bool (by have := Hno.out; first | (simp; done) | (simp; omega)), hbw⟩
    case rest =>
      clear hbw
      obtain ⟨rfl, hbw⟩ := hcut
      go_wp2_with fail
      refine (new_ok (tr := 3) (ba := 1) (ke := 1) (ho := 1) ⟨by omega, by omega, by omega, by omega, by omega, by omega, by omega, by omega⟩ _).mono ?_
      rintro e11 w11 ⟨rfl, hb11, T⟩
      have Hg : w.heap.size ≤ wc.heap.size := hbw.size
      replace hbw := hbw.trans (hb11.mono Hg)
      clear hb11
      go_wp2_with fail
      refine (want_bad _ q n _ (by omega)).mono ?_
      rintro e12 w12 ⟨rfl, rfl⟩
      go_wp2_with fail
      refine (of_bad _ q _ (by omega)).mono ?_
      rintro e13 w13 ⟨rfl, hb13⟩
      replace T := T.keep hb13
      replace hbw := hbw.trans (hb13.mono hbw.size)
      clear hb13
      go_wp2_with fail
      refine (due_none ⟨by omega, by omega, by omega, by omega, by omega, by omega, by omega, by omega⟩ n _ (T.alloc _) (by omega) (by omega)).mono ?_
      rintro e14 w14 ⟨A, C, rfl, T14, hg14⟩
      clear T
      have T := T14
      clear T14
      replace hbw := (hbw.alloc hbw.size _).grown hg14 (by have := hbw.size; simp; omega) (fun _ e => by injection e with e; rw [← e]; exact Hg)
      clear hg14
      go_wp2_with fail
      refine (lost_bad _ q _ (by omega)).mono ?_
      rintro e15 w15 ⟨rfl, hb15⟩
      replace T := T.keep hb15
      replace hbw := hbw.trans (hb15.mono hbw.size)
      clear hb15
      go_wp2_with fail
      refine (all_none _ T).mono ?_
      rintro e16 w16 ⟨A9, C9, rfl, hb16⟩
      replace T := T.keep hb16
      replace hbw := hbw.trans (hb16.mono hbw.size)
      clear hb16
      go_wp2
      go_ret
      exact ⟨rfl, hbw⟩

set_option maxRecDepth 100000 in
set_option maxHeartbeats 20000000 in
theorem pw_Q1 (tr ba ke ho n : Int) (q : Int) (p1 : q < 1) (n1 : 4611686018427387904 < n) (b0 : 0 ≤ ba) (k0 : 0 ≤ ke) (o0 : 0 ≤ ho) (n0 : 0 ≤ n) (w : World) :
    Calls Try.prog 8 #[.int .i64 tr, .int .u64 ba, .int .u64 ke, .int .u64 ho, .int .i64 q, .int .u64 n] w fun e w' => e = .returned (.bool true) ∧ Below w.heap.size w w' := by
  have hbw := Below.refl w.heap.size w
  go_enter Try.func8, Try.ntmps8
  go_wp2_with fail
  refine (examples_any _).mono ?_
  rintro e1 w1 ⟨rfl, hb1⟩
  replace hbw := hbw.trans (hb1.mono hbw.size)
  clear hb1
  go_wp2_with fail
  refine (new_any tr ba ke ho b0 k0 o0 _).mono ?_
  rintro e2 w2 ⟨⟨v, er, rfl, hK⟩, hb2⟩
  replace hbw := hbw.trans (hb2.mono hbw.size)
  clear hb2
  unfold Rng at hK
  have hK : er = 0 ∧ 1 ≤ tr ∧ tr ≤ 8 ∧ (1 ≤ ba ∧ ba ≤ 1000000) ∧ (1 ≤ ke ∧ ke ≤ 1000000) ∧ (1 ≤ ho ∧ ho ≤ 1000000) ∨ er = 1 ∧ tr < 1 ∧ (1 ≤ ba ∧ ba ≤ 1000000) ∧ (1 ≤ ke ∧ ke ≤ 1000000) ∧ (1 ≤ ho ∧ ho ≤ 1000000) ∨ er = 1 ∧ 8 < tr ∧ (1 ≤ ba ∧ ba ≤ 1000000) ∧ (1 ≤ ke ∧ ke ≤ 1000000) ∧ (1 ≤ ho ∧ ho ≤ 1000000) ∨ er = 1 ∧ ¬ ((1 ≤ ba ∧ ba ≤ 1000000) ∧ (1 ≤ ke ∧ ke ≤ 1000000) ∧ (1 ≤ ho ∧ ho ≤ 1000000)) := by
    rcases hK with ⟨h, N⟩ | h | h
    · exact .inl ⟨h, N.t1, N.t2, ⟨N.b1, N.b2⟩, ⟨N.k1, N.k2⟩, N.o1, N.o2⟩
    · omega
    · exact .inr (.inr (.inr h))
  rcases hK with ⟨rfl, t1, t2, ⟨b1, b2⟩, ⟨k1, k2⟩, o1, o2⟩ | ⟨rfl, t1, ⟨b1, b2⟩, ⟨k1, k2⟩, o1, o2⟩ | ⟨rfl, t1, ⟨b1, b2⟩, ⟨k1, k2⟩, o1, o2⟩ | ⟨rfl, hno⟩
  · go_upto_region 5 with (fail)
    go_cut [16] (fun v16 wc => v16 = .bool true ∧ Below w.heap.size w wc)
    case first =>
      go_wp2
      go_meet
      case rel => exact ⟨rfl, hbw⟩
    case rest =>
      clear hbw
      obtain ⟨rfl, hbw⟩ := hcut
      go_wp2_with fail
      refine (new_ok (tr := 3) (ba := 1) (ke := 1) (ho := 1) ⟨by omega, by omega, by omega, by omega, by omega, by omega, by omega, by omega⟩ _).mono ?_
      rintro e11 w11 ⟨rfl, hb11, T⟩
      have Hg : w.heap.size ≤ wc.heap.size := hbw.size
      replace hbw := hbw.trans (hb11.mono Hg)
      clear hb11
      go_wp2_with fail
      refine (want_bad _ q n _ (by omega)).mono ?_
      rintro e12 w12 ⟨rfl, rfl⟩
      go_wp2_with fail
      refine (of_bad _ q _ (by omega)).mono ?_
      rintro e13 w13 ⟨rfl, hb13⟩
      replace T := T.keep hb13
      replace hbw := hbw.trans (hb13.mono hbw.size)
      clear hb13
      go_wp2_with fail
      refine (due_late _ n _ (by omega)).mono ?_
      rintro e14 w14 ⟨rfl, rfl⟩
      go_wp2_with fail
      refine (lost_bad _ q _ (by omega)).mono ?_
      rintro e15 w15 ⟨rfl, hb15⟩
      replace T := (T.alloc _).keep hb15
      replace hbw := (hbw.alloc hbw.size _).trans (hb15.mono (by have := hbw.size; simp; omega))
      clear hb15
      go_wp2_with fail
      refine (all_none _ T).mono ?_
      rintro e16 w16 ⟨A9, C9, rfl, hb16⟩
      replace T := T.keep hb16
      replace hbw := hbw.trans (hb16.mono hbw.size)
      clear hb16
      go_wp2
      go_ret
      exact ⟨rfl, hbw⟩
  · go_upto_region 5 with (fail)
    go_cut [16] (fun v16 wc => v16 = .bool true ∧ Below w.heap.size w wc)
    case first =>
      go_wp2
      go_meet
      case rel => exact ⟨rfl, hbw⟩
    case rest =>
      clear hbw
      obtain ⟨rfl, hbw⟩ := hcut
      go_wp2_with fail
      refine (new_ok (tr := 3) (ba := 1) (ke := 1) (ho := 1) ⟨by omega, by omega, by omega, by omega, by omega, by omega, by omega, by omega⟩ _).mono ?_
      rintro e11 w11 ⟨rfl, hb11, T⟩
      have Hg : w.heap.size ≤ wc.heap.size := hbw.size
      replace hbw := hbw.trans (hb11.mono Hg)
      clear hb11
      go_wp2_with fail
      refine (want_bad _ q n _ (by omega)).mono ?_
      rintro e12 w12 ⟨rfl, rfl⟩
      go_wp2_with fail
      refine (of_bad _ q _ (by omega)).mono ?_
      rintro e13 w13 ⟨rfl, hb13⟩
      replace T := T.keep hb13
      replace hbw := hbw.trans (hb13.mono hbw.size)
      clear hb13
      go_wp2_with fail
      refine (due_late _ n _ (by omega)).mono ?_
      rintro e14 w14 ⟨rfl, rfl⟩
      go_wp2_with fail
      refine (lost_bad _ q _ (by omega)).mono ?_
      rintro e15 w15 ⟨rfl, hb15⟩
      replace T := (T.alloc _).keep hb15
      replace hbw := (hbw.alloc hbw.size _).trans (hb15.mono (by have := hbw.size; simp; omega))
      clear hb15
      go_wp2_with fail
      refine (all_none _ T).mono ?_
      rintro e16 w16 ⟨A9, C9, rfl, hb16⟩
      replace T := T.keep hb16
      replace hbw := hbw.trans (hb16.mono hbw.size)
      clear hb16
      go_wp2
      go_ret
      exact ⟨rfl, hbw⟩
  · have ht8 : decide (tr ≤ 8) = false := by simp; omega
    go_upto_region 5 with (fail)
    go_cut [16] (fun v16 wc => v16 = .bool true ∧ Below w.heap.size w wc)
    case first =>
      go_wp2
      go_meet
      case rel => exact ⟨rfl, hbw⟩
    case rest =>
      clear hbw
      obtain ⟨rfl, hbw⟩ := hcut
      go_wp2_with fail
      refine (new_ok (tr := 3) (ba := 1) (ke := 1) (ho := 1) ⟨by omega, by omega, by omega, by omega, by omega, by omega, by omega, by omega⟩ _).mono ?_
      rintro e11 w11 ⟨rfl, hb11, T⟩
      have Hg : w.heap.size ≤ wc.heap.size := hbw.size
      replace hbw := hbw.trans (hb11.mono Hg)
      clear hb11
      go_wp2_with fail
      refine (want_bad _ q n _ (by omega)).mono ?_
      rintro e12 w12 ⟨rfl, rfl⟩
      go_wp2_with fail
      refine (of_bad _ q _ (by omega)).mono ?_
      rintro e13 w13 ⟨rfl, hb13⟩
      replace T := T.keep hb13
      replace hbw := hbw.trans (hb13.mono hbw.size)
      clear hb13
      go_wp2_with fail
      refine (due_late _ n _ (by omega)).mono ?_
      rintro e14 w14 ⟨rfl, rfl⟩
      go_wp2_with fail
      refine (lost_bad _ q _ (by omega)).mono ?_
      rintro e15 w15 ⟨rfl, hb15⟩
      replace T := (T.alloc _).keep hb15
      replace hbw := (hbw.alloc hbw.size _).trans (hb15.mono (by have := hbw.size; simp; omega))
      clear hb15
      go_wp2_with fail
      refine (all_none _ T).mono ?_
      rintro e16 w16 ⟨A9, C9, rfl, hb16⟩
      replace T := T.keep hb16
      replace hbw := hbw.trans (hb16.mono hbw.size)
      clear hb16
      go_wp2
      go_ret
      exact ⟨rfl, hbw⟩
  · go_upto_region 5 with (fail)
    go_cut [16] (fun v16 wc => v16 = .bool false ∧ Below w.heap.size w wc)
    case first =>
      have Hno := Lib.hid hno
      clear hno
      go_wp2
      all_goals go_meet
      all_goals exact ⟨congrArg Value.bool (by have := Hno.out; first | (simp; done) | (simp; omega)), hbw⟩
    case rest =>
      clear hbw
      obtain ⟨rfl, hbw⟩ := hcut
      go_wp2_with fail
      refine (new_ok (tr := 3) (ba := 1) (ke := 1) (ho := 1) ⟨by omega, by omega, by omega, by omega, by omega, by omega, by omega, by omega⟩ _).mono ?_
      rintro e11 w11 ⟨rfl, hb11, T⟩
      have Hg : w.heap.size ≤ wc.heap.size := hbw.size
      replace hbw := hbw.trans (hb11.mono Hg)
      clear hb11
      go_wp2_with fail
      refine (want_bad _ q n _ (by omega)).mono ?_
      rintro e12 w12 ⟨rfl, rfl⟩
      go_wp2_with fail
      refine (of_bad _ q _ (by omega)).mono ?_
      rintro e13 w13 ⟨rfl, hb13⟩
      replace T := T.keep hb13
      replace hbw := hbw.trans (hb13.mono hbw.size)
      clear hb13
      go_wp2_with fail
      refine (due_late _ n _ (by omega)).mono ?_
      rintro e14 w14 ⟨rfl, rfl⟩
      go_wp2_with fail
      refine (lost_bad _ q _ (by omega)).mono ?_
      rintro e15 w15 ⟨rfl, hb15⟩
      replace T := (T.alloc _).keep hb15
      replace hbw := (hbw.alloc hbw.size _).trans (hb15.mono (by have := hbw.size; simp; omega))
      clear hb15
      go_wp2_with fail
      refine (all_none _ T).mono ?_
      rintro e16 w16 ⟨A9, C9, rfl, hb16⟩
      replace T := T.keep hb16
      replace hbw := hbw.trans (hb16.mono hbw.size)
      clear hb16
      go_wp2
      go_ret
      exact ⟨rfl, hbw⟩

set_option maxRecDepth 100000 in
set_option maxHeartbeats 20000000 in
theorem pw_Q2 (tr ba ke ho n : Int) (q : Int) (p1 : 32 < q) (n1 : 4611686018427387904 < n) (b0 : 0 ≤ ba) (k0 : 0 ≤ ke) (o0 : 0 ≤ ho) (n0 : 0 ≤ n) (w : World) :
    Calls Try.prog 8 #[.int .i64 tr, .int .u64 ba, .int .u64 ke, .int .u64 ho, .int .i64 q, .int .u64 n] w fun e w' => e = .returned (.bool true) ∧ Below w.heap.size w w' := by
  have hbw := Below.refl w.heap.size w
  go_enter Try.func8, Try.ntmps8
  go_wp2_with fail
  refine (examples_any _).mono ?_
  rintro e1 w1 ⟨rfl, hb1⟩
  replace hbw := hbw.trans (hb1.mono hbw.size)
  clear hb1
  go_wp2_with fail
  refine (new_any tr ba ke ho b0 k0 o0 _).mono ?_
  rintro e2 w2 ⟨⟨v, er, rfl, hK⟩, hb2⟩
  replace hbw := hbw.trans (hb2.mono hbw.size)
  clear hb2
  unfold Rng at hK
  have hK : er = 0 ∧ 1 ≤ tr ∧ tr ≤ 8 ∧ (1 ≤ ba ∧ ba ≤ 1000000) ∧ (1 ≤ ke ∧ ke ≤ 1000000) ∧ (1 ≤ ho ∧ ho ≤ 1000000) ∨ er = 1 ∧ tr < 1 ∧ (1 ≤ ba ∧ ba ≤ 1000000) ∧ (1 ≤ ke ∧ ke ≤ 1000000) ∧ (1 ≤ ho ∧ ho ≤ 1000000) ∨ er = 1 ∧ 8 < tr ∧ (1 ≤ ba ∧ ba ≤ 1000000) ∧ (1 ≤ ke ∧ ke ≤ 1000000) ∧ (1 ≤ ho ∧ ho ≤ 1000000) ∨ er = 1 ∧ ¬ ((1 ≤ ba ∧ ba ≤ 1000000) ∧ (1 ≤ ke ∧ ke ≤ 1000000) ∧ (1 ≤ ho ∧ ho ≤ 1000000)) := by
    rcases hK with ⟨h, N⟩ | h | h
    · exact .inl ⟨h, N.t1, N.t2, ⟨N.b1, N.b2⟩, ⟨N.k1, N.k2⟩, N.o1, N.o2⟩
    · omega
    · exact .inr (.inr (.inr h))
  rcases hK with ⟨rfl, t1, t2, ⟨b1, b2⟩, ⟨k1, k2⟩, o1, o2⟩ | ⟨rfl, t1, ⟨b1, b2⟩, ⟨k1, k2⟩, o1, o2⟩ | ⟨rfl, t1, ⟨b1, b2⟩, ⟨k1, k2⟩, o1, o2⟩ | ⟨rfl, hno⟩
  · go_upto_region 5 with (fail)
    go_cut [16] (fun v16 wc => v16 = .bool true ∧ Below w.heap.size w wc)
    case first =>
      go_wp2
      go_meet
      case rel => exact ⟨rfl, hbw⟩
    case rest =>
      clear hbw
      obtain ⟨rfl, hbw⟩ := hcut
      go_wp2_with fail
      refine (new_ok (tr := 3) (ba := 1) (ke := 1) (ho := 1) ⟨by omega, by omega, by omega, by omega, by omega, by omega, by omega, by omega⟩ _).mono ?_
      rintro e11 w11 ⟨rfl, hb11, T⟩
      have Hg : w.heap.size ≤ wc.heap.size := hbw.size
      replace hbw := hbw.trans (hb11.mono Hg)
      clear hb11
      go_wp2_with fail
      refine (want_bad _ q n _ (by omega)).mono ?_
      rintro e12 w12 ⟨rfl, rfl⟩
      go_wp2_with fail
      refine (of_bad _ q _ (by omega)).mono ?_
      rintro e13 w13 ⟨rfl, hb13⟩
      replace T := T.keep hb13
      replace hbw := hbw.trans (hb13.mono hbw.size)
      clear hb13
      go_wp2_with fail
      refine (due_late _ n _ (by omega)).mono ?_
      rintro e14 w14 ⟨rfl, rfl⟩
      go_wp2_with fail
      refine (lost_bad _ q _ (by omega)).mono ?_
      rintro e15 w15 ⟨rfl, hb15⟩
      replace T := (T.alloc _).keep hb15
      replace hbw := (hbw.alloc hbw.size _).trans (hb15.mono (by have := hbw.size; simp; omega))
      clear hb15
      go_wp2_with fail
      refine (all_none _ T).mono ?_
      rintro e16 w16 ⟨A9, C9, rfl, hb16⟩
      replace T := T.keep hb16
      replace hbw := hbw.trans (hb16.mono hbw.size)
      clear hb16
      go_wp2
      go_ret
      exact ⟨rfl, hbw⟩
  · go_upto_region 5 with (fail)
    go_cut [16] (fun v16 wc => v16 = .bool true ∧ Below w.heap.size w wc)
    case first =>
      go_wp2
      go_meet
      case rel => exact ⟨rfl, hbw⟩
    case rest =>
      clear hbw
      obtain ⟨rfl, hbw⟩ := hcut
      go_wp2_with fail
      refine (new_ok (tr := 3) (ba := 1) (ke := 1) (ho := 1) ⟨by omega, by omega, by omega, by omega, by omega, by omega, by omega, by omega⟩ _).mono ?_
      rintro e11 w11 ⟨rfl, hb11, T⟩
      have Hg : w.heap.size ≤ wc.heap.size := hbw.size
      replace hbw := hbw.trans (hb11.mono Hg)
      clear hb11
      go_wp2_with fail
      refine (want_bad _ q n _ (by omega)).mono ?_
      rintro e12 w12 ⟨rfl, rfl⟩
      go_wp2_with fail
      refine (of_bad _ q _ (by omega)).mono ?_
      rintro e13 w13 ⟨rfl, hb13⟩
      replace T := T.keep hb13
      replace hbw := hbw.trans (hb13.mono hbw.size)
      clear hb13
      go_wp2_with fail
      refine (due_late _ n _ (by omega)).mono ?_
      rintro e14 w14 ⟨rfl, rfl⟩
      go_wp2_with fail
      refine (lost_bad _ q _ (by omega)).mono ?_
      rintro e15 w15 ⟨rfl, hb15⟩
      replace T := (T.alloc _).keep hb15
      replace hbw := (hbw.alloc hbw.size _).trans (hb15.mono (by have := hbw.size; simp; omega))
      clear hb15
      go_wp2_with fail
      refine (all_none _ T).mono ?_
      rintro e16 w16 ⟨A9, C9, rfl, hb16⟩
      replace T := T.keep hb16
      replace hbw := hbw.trans (hb16.mono hbw.size)
      clear hb16
      go_wp2
      go_ret
      exact ⟨rfl, hbw⟩
  · have ht8 : decide (tr ≤ 8) = false := by simp; omega
    go_upto_region 5 with (fail)
    go_cut [16] (fun v16 wc => v16 = .bool true ∧ Below w.heap.size w wc)
    case first =>
      go_wp2
      go_meet
      case rel => exact ⟨rfl, hbw⟩
    case rest =>
      clear hbw
      obtain ⟨rfl, hbw⟩ := hcut
      go_wp2_with fail
      refine (new_ok (tr := 3) (ba := 1) (ke := 1) (ho := 1) ⟨by omega, by omega, by omega, by omega, by omega, by omega, by omega, by omega⟩ _).mono ?_
      rintro e11 w11 ⟨rfl, hb11, T⟩
      have Hg : w.heap.size ≤ wc.heap.size := hbw.size
      replace hbw := hbw.trans (hb11.mono Hg)
      clear hb11
      go_wp2_with fail
      refine (want_bad _ q n _ (by omega)).mono ?_
      rintro e12 w12 ⟨rfl, rfl⟩
      go_wp2_with fail
      refine (of_bad _ q _ (by omega)).mono ?_
      rintro e13 w13 ⟨rfl, hb13⟩
      replace T := T.keep hb13
      replace hbw := hbw.trans (hb13.mono hbw.size)
      clear hb13
      go_wp2_with fail
      refine (due_late _ n _ (by omega)).mono ?_
      rintro e14 w14 ⟨rfl, rfl⟩
      go_wp2_with fail
      refine (lost_bad _ q _ (by omega)).mono ?_
      rintro e15 w15 ⟨rfl, hb15⟩
      replace T := (T.alloc _).keep hb15
      replace hbw := (hbw.alloc hbw.size _).trans (hb15.mono (by have := hbw.size; simp; omega))
      clear hb15
      go_wp2_with fail
      refine (all_none _ T).mono ?_
      rintro e16 w16 ⟨A9, C9, rfl, hb16⟩
      replace T := T.keep hb16
      replace hbw := hbw.trans (hb16.mono hbw.size)
      clear hb16
      go_wp2
      go_ret
      exact ⟨rfl, hbw⟩
  · go_upto_region 5 with (fail)
    go_cut [16] (fun v16 wc => v16 = .bool false ∧ Below w.heap.size w wc)
    case first =>
      have Hno := Lib.hid hno
      clear hno
      go_wp2
      all_goals go_meet
      all_goals exact ⟨congrArg Value.bool (by have := Hno.out; first | (simp; done) | (simp; omega)), hbw⟩
    case rest =>
      clear hbw
      obtain ⟨rfl, hbw⟩ := hcut
      go_wp2_with fail
      refine (new_ok (tr := 3) (ba := 1) (ke := 1) (ho := 1) ⟨by omega, by omega, by omega, by omega, by omega, by omega, by omega, by omega⟩ _).mono ?_
      rintro e11 w11 ⟨rfl, hb11, T⟩
      have Hg : w.heap.size ≤ wc.heap.size := hbw.size
      replace hbw := hbw.trans (hb11.mono Hg)
      clear hb11
      go_wp2_with fail
      refine (want_bad _ q n _ (by omega)).mono ?_
      rintro e12 w12 ⟨rfl, rfl⟩
      go_wp2_with fail
      refine (of_bad _ q _ (by omega)).mono ?_
      rintro e13 w13 ⟨rfl, hb13⟩
      replace T := T.keep hb13
      replace hbw := hbw.trans (hb13.mono hbw.size)
      clear hb13
      go_wp2_with fail
      refine (due_late _ n _ (by omega)).mono ?_
      rintro e14 w14 ⟨rfl, rfl⟩
      go_wp2_with fail
      refine (lost_bad _ q _ (by omega)).mono ?_
      rintro e15 w15 ⟨rfl, hb15⟩
      replace T := (T.alloc _).keep hb15
      replace hbw := (hbw.alloc hbw.size _).trans (hb15.mono (by have := hbw.size; simp; omega))
      clear hb15
      go_wp2_with fail
      refine (all_none _ T).mono ?_
      rintro e16 w16 ⟨A9, C9, rfl, hb16⟩
      replace T := T.keep hb16
      replace hbw := hbw.trans (hb16.mono hbw.size)
      clear hb16
      go_wp2
      go_ret
      exact ⟨rfl, hbw⟩

theorem pw_any (tr ba ke ho q n : Int) (b0 : 0 ≤ ba) (k0 : 0 ≤ ke) (o0 : 0 ≤ ho) (n0 : 0 ≤ n) (w : World) :
    Calls Try.prog 8 #[.int .i64 tr, .int .u64 ba, .int .u64 ke, .int .u64 ho, .int .i64 q, .int .u64 n] w fun e w' => e = .returned (.bool true) ∧ Below w.heap.size w w' := by
  by_cases h1 : q < 1
  · by_cases h3 : n ≤ 4611686018427387904
    · exact pw_P1 tr ba ke ho n q h1 h3 b0 k0 o0 n0 w
    · exact pw_Q1 tr ba ke ho n q h1 (by omega) b0 k0 o0 n0 w
  · by_cases h2 : 32 < q
    · by_cases h3 : n ≤ 4611686018427387904
      · exact pw_P2 tr ba ke ho n q h2 h3 b0 k0 o0 n0 w
      · exact pw_Q2 tr ba ke ho n q h2 (by omega) b0 k0 o0 n0 w
    · obtain ⟨p, rfl⟩ := Int.eq_ofNat_of_zero_le (show 0 ≤ q by omega)
      by_cases h3 : n ≤ 4611686018427387904
      · exact pw_M tr ba ke ho n p (by omega) (by omega) h3 b0 k0 o0 n0 w
      · exact pw_R tr ba ke ho n p (by omega) (by omega) (by omega) b0 k0 o0 n0 w

end Go.Proofs.Ytglliiijeadhcaa
