/- What PathTries does: at all arguments it answers true, and changes nothing that was there. -/
import Derived.Test.YtglliiijeadhcaaKd
namespace Go.Proofs.Ytglliiijeadhcaa
open Go.RowKit
set_option linter.unusedVariables false

theorem pow_bd {ba : Int} (b1 : 1 ≤ ba) (b2 : ba ≤ 10) {i : Nat} (h : i < 8) : 1 ≤ ba * 2 ^ i ∧ ba * 2 ^ i ≤ 1280 := by
  have h : i = 0 ∨ i = 1 ∨ i = 2 ∨ i = 3 ∨ i = 4 ∨ i = 5 ∨ i = 6 ∨ i = 7 := by omega
  rcases h with rfl | rfl | rfl | rfl | rfl | rfl | rfl | rfl <;> omega
theorem sh_t {ba : Int} (b1 : 1 ≤ ba) (b2 : ba ≤ 10) {i : Nat} (h : i < 8) : IntKind.u64.wrap (ba * 2 ^ i) = ba * 2 ^ i :=
  IntWalk.u64_in _ (by have := pow_bd b1 b2 h; omega)
theorem step_t {tr ba ho m : Int} {i : Nat} (h : (i : Int) < tr) : stepF tr ba 7 ho m ⟨((9 : Nat) : Int), 2, i, 0, 0, m, 0⟩ = (⟨((9 : Nat) : Int), 2, i + 1, 0, 0, m + ba * 2 ^ i, 0⟩, 1) := by
  simp only [stepF, Int.toNat_natCast]
  rw [if_neg (by omega), if_neg (by omega), if_neg (by omega), if_pos trivial]
theorem step_early {tr ba ke ho n : Int} (x : Pt) (h : n < x.f) : stepF tr ba ke ho n x = (x, 0) := by
  unfold stepF
  rw [if_pos h]
theorem step_r {tr ba ho m : Int} {i : Nat} (h : tr ≤ (i : Int)) : stepF tr ba 7 ho m ⟨((9 : Nat) : Int), 2, i, 0, 0, m, 0⟩ = (⟨((9 : Nat) : Int), 1, i, 0, 0, m + ho, 0⟩, 0) := by
  simp only [stepF]
  rw [if_neg (by omega), if_neg (by omega), if_pos ⟨trivial, h⟩]
theorem step_n {tr ba ho m : Int} {i : Nat} : stepF tr ba 7 ho (m + ho) ⟨((9 : Nat) : Int), 1, i, 0, 0, m + ho, 0⟩ = (⟨((9 : Nat) : Int), 2, 1, 0, 0, m + ho + ba, 0⟩, 1) := by
  simp only [stepF]
  rw [if_neg (by omega), if_neg (by omega), if_neg (by omega), if_neg (by omega)]
set_option maxRecDepth 100000 in
set_option maxHeartbeats 8000000 in
theorem pt_any (x y z tr ba ho : Int) (x1 : 0 ≤ x) (x2 : x ≤ 255) (y1 : 0 ≤ y) (y2 : y ≤ 255) (z1 : 0 ≤ z) (z2 : z ≤ 255) (hx : 1 + x % 8 = tr) (hy : 1 + y % 10 = ba) (hz : 1 + z % 50 = ho)
    (N : Num tr ba 7 ho) (ba1 : 1 ≤ ba) (ba2 : ba ≤ 10) (w : World) :
    Calls Try.prog 4 #[.int .u8 x, .int .u8 y, .int .u8 z] w fun e w' => e = .returned (.bool true) ∧ Below w.heap.size w w' := by
  have hN := Lib.hid N
  clear N
  have hbw := Below.refl w.heap.size w
  go_enter Try.func4, Try.ntmps4
  go_wp2_with fail
  refine (examples_any _).mono ?_
  rintro e1 w1 ⟨rfl, hb1⟩
  replace hbw := hbw.trans (hb1.mono hbw.size)
  clear hb1
  go_wp2_with fail
  refine (new_ok hN.out _).mono ?_
  rintro e2 w2 ⟨rfl, hb2, T⟩
  change Tab _ _ _ _ _ _ Zt at T
  have Hg : w.heap.size ≤ w1.heap.size := hbw.size
  replace hbw := hbw.trans (hb2.mono Hg)
  clear hb2
  go_wp2_with fail
  refine (want_ok 9 0 _ T (by omega) (by omega) (by omega) rfl).mono ?_
  rintro e3 w3 ⟨rfl, T3, hg3⟩
  clear T
  have T := T3
  clear T3
  replace hbw := hbw.grown hg3 hbw.size (fun _ e => by injection e with e; rw [← e]; exact Hg)
  clear hg3
  go_wp2_with fail
  try rw [hx]
  try rw [hy]
  try rw [hz]
  clear hx hy hz
  go_loopw [13, 14] (fun v13 v14 wr => ∃ (i : Nat) (m : Int), (i : Int) ≤ tr ∧ 0 ≤ m ∧ m ≤ 1280 * i ∧ v13 = .int .u64 m ∧ v14 = .int .i64 i ∧ Tab wr w1.heap.size tr ba 7 ho (upd Zt 9 ⟨((9 : Nat) : Int), 2, i, 0, 0, m, 0⟩) ∧ Below w.heap.size w wr) (fun _ v14 _ => (tr - intOf v14).toNat)
  case atStart => exact ⟨0, 0, by have := hN.out.t1; omega, by omega, by omega, rfl, rfl, T, hbw⟩
  case round =>
    clear T hbw
    obtain ⟨i, m, hi, hm0, hm1, rfl, rfl, T, hbw⟩ := hrel
    have tr8 := hN.out.t2
    have ho1 := hN.out.o1
    have ho2 := hN.out.o2
    by_cases hlt : (i : Int) < tr
    · have hq := pow_bd ba1 ba2 (show i < 8 by omega)
      have hst := step_t (ba := ba) (ho := ho) (m := m) hlt
      have hsh := sh_t ba1 ba2 (show i < 8 by omega)
      obtain ⟨q, hqe⟩ : ∃ q, ba * 2 ^ i = q := ⟨_, rfl⟩
      rw [hqe] at hq hst
      clear hsh
      have Hst := Lib.hid hst
      clear hst
      go_wp2_with fail
      refine (due_send hN.out 9 ⟨((9 : Nat) : Int), 2, i, 0, 0, m, 0⟩ ⟨((9 : Nat) : Int), 2, i + 1, 0, 0, m + q, 0⟩ 1 m _ T (by omega) (by omega) (by omega) (show (2 : Int) ≠ 0 by decide) (show (0 : Int) ≤ i by omega) Hst.out (by decide)).mono ?_
      rintro e11 w11 ⟨p1, q1, cur1, rfl, T11, hg11, hr1, h11, B1, r01, r11⟩
      have ng1 : p1 ≠ _ := Nat.ne_of_gt (Nat.lt_of_lt_of_le T.lt hr1)
      clear T
      have T := T11
      clear T11
      replace hbw := hbw.grown hg11 hbw.size (fun _ e => by injection e with e; rw [← e]; exact Hg)
      clear hg11
      clear hr1
      obtain ⟨c1, f1, z1⟩ := B1.all
      go_wp2_with fail
      refine (due_still hN.out 9 ⟨((9 : Nat) : Int), 2, i + 1, 0, 0, m + q, 0⟩ ⟨((9 : Nat) : Int), 2, i + 1, 0, 0, m + q, 0⟩ 0 (m + q - 1) _ T (by omega) (by omega) (by omega) (show (2 : Int) ≠ 0 by decide) (show (0 : Int) ≤ (i : Int) + 1 by omega) (step_early _ (show m + q - 1 < m + q by omega)) (by decide)).mono ?_
      rintro e12 w12 ⟨A, C, rfl, T12, hg12⟩
      clear c1 f1 z1
      replace B1 := B1.only hg12 ng1
      clear T
      have T := T12
      clear T12
      replace hbw := hbw.grown hg12 hbw.size (fun _ e => by injection e with e; rw [← e]; exact Hg)
      clear hg12
      obtain ⟨c1, f1, z1⟩ := B1.all
      go_wp2
      go_roundw
      case rel => exact ⟨i + 1, m + q, by omega, by omega, by omega, rfl, by go_num, by rw [Int.natCast_add]; exact T, hbw⟩
      case measure => simp [intOf]; omega
    · have heq1 : tr ≤ (i : Int) := by omega
      have Hr := Lib.hid (step_r (ba := ba) (ho := ho) (m := m) heq1)
      have Hn := Lib.hid (step_n (tr := tr) (ba := ba) (ho := ho) (m := m) (i := i))
      go_wp2_with fail
      refine (due_still hN.out 9 ⟨((9 : Nat) : Int), 2, i, 0, 0, m, 0⟩ ⟨((9 : Nat) : Int), 1, i, 0, 0, m + ho, 0⟩ 0 m _ T (by omega) (by omega) (by omega) (show (2 : Int) ≠ 0 by decide) (show (0 : Int) ≤ i by omega) Hr.out (by decide)).mono ?_
      rintro e11 w11 ⟨A, C, rfl, T11, hg11⟩
      clear T
      have T := T11
      clear T11
      replace hbw := hbw.grown hg11 hbw.size (fun _ e => by injection e with e; rw [← e]; exact Hg)
      clear hg11
      go_wp2_with fail
      refine (of_yes 9 ⟨((9 : Nat) : Int), 1, i, 0, 0, m + ho, 0⟩ _ T (by omega) (by omega) rfl (show (1 : Int) ≠ 0 by decide)).mono ?_
      rintro e12 w12 ⟨rfl, hb12⟩
      replace T := T.keep hb12
      replace hbw := hbw.trans (hb12.mono hbw.size)
      clear hb12
      go_wp2_with fail
      refine (due_still hN.out 9 ⟨((9 : Nat) : Int), 1, i, 0, 0, m + ho, 0⟩ ⟨((9 : Nat) : Int), 1, i, 0, 0, m + ho, 0⟩ 0 (m + ho - 1) _ (T.alloc _) (by omega) (by omega) (by omega) (show (1 : Int) ≠ 0 by decide) (show (0 : Int) ≤ i by omega) (step_early _ (show m + ho - 1 < m + ho by omega)) (by decide)).mono ?_
      rintro e13 w13 ⟨A2, C2, rfl, T13, hg13⟩
      have ng1 := Nat.ne_of_gt T.lt
      have B1 := (Blk.new w12 _ _).only hg13 ng1
      clear T
      have T := T13
      clear T13
      replace hbw := (hbw.alloc hbw.size _).grown hg13 (by have := hbw.size; simp; omega) (fun _ e => by injection e with e; rw [← e]; exact Hg)
      clear hg13
      obtain ⟨c1, f1, z1⟩ := B1.all
      go_wp2_with fail
      refine (due_send hN.out 9 ⟨((9 : Nat) : Int), 1, i, 0, 0, m + ho, 0⟩ ⟨((9 : Nat) : Int), 2, 1, 0, 0, m + ho + ba, 0⟩ 1 (m + ho) _ T (by omega) (by omega) (by omega) (show (1 : Int) ≠ 0 by decide) (show (0 : Int) ≤ i by omega) Hn.out (by decide)).mono ?_
      rintro e14 w14 ⟨p2, q2, cur2, rfl, T14, hg14, hr2, h12, B2, r02, r12⟩
      clear c1 f1 z1
      replace B1 := B1.only hg14 ng1
      have ng2 : p2 ≠ _ := Nat.ne_of_gt (Nat.lt_of_lt_of_le T.lt hr2)
      clear T
      have T := T14
      clear T14
      replace hbw := hbw.grown hg14 hbw.size (fun _ e => by injection e with e; rw [← e]; exact Hg)
      clear hg14
      clear hr2
      obtain ⟨c1, f1, z1⟩ := B1.all
      obtain ⟨c2, f2, z2⟩ := B2.all
      go_wp2_with fail
      refine (of_yes 9 ⟨((9 : Nat) : Int), 2, 1, 0, 0, m + ho + ba, 0⟩ _ T (by omega) (by omega) rfl (show (2 : Int) ≠ 0 by decide)).mono ?_
      rintro e15 w15 ⟨rfl, hb15⟩
      clear c1 f1 z1
      clear c2 f2 z2
      replace B1 := B1.keep hb15
      replace B2 := B2.keep hb15
      replace T := T.keep hb15
      replace hbw := hbw.trans (hb15.mono hbw.size)
      clear hb15
      obtain ⟨c1, f1, z1⟩ := B1.all
      obtain ⟨c2, f2, z2⟩ := B2.all
      go_wp2
      go_ret
      exact ⟨rfl, hbw.alloc hbw.size _⟩
theorem pt_all (x y z : Int) (x1 : 0 ≤ x) (x2 : x ≤ 255) (y1 : 0 ≤ y) (y2 : y ≤ 255) (z1 : 0 ≤ z) (z2 : z ≤ 255) (w : World) :
    Calls Try.prog 4 #[.int .u8 x, .int .u8 y, .int .u8 z] w fun e w' => e = .returned (.bool true) ∧ Below w.heap.size w w' :=
  pt_any x y z _ _ _ x1 x2 y1 y2 z1 z2 rfl rfl rfl ⟨by omega, by omega, by omega, by omega, by omega, by omega, by omega, by omega⟩ (by omega) (by omega) w

end Go.Proofs.Ytglliiijeadhcaa
