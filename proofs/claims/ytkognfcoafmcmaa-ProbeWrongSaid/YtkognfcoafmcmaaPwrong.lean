/- What ProbeWrong does: for all numbers it answers true, and changes nothing that was there. -/
import Derived.Test.YtkognfcoafmcmaaKb
import Derived.Deep.DeepCutAuto
import Derived.Deep.CutBlock
namespace Go.Proofs.Ytkognfcoafmcmaa
open Go.RowKit

def newErr (x y : Int) : Int := if 1 ≤ x ∧ x ≤ 1000000 ∧ 1 ≤ y ∧ y ≤ 1000000 then 0 else 1
theorem new_any (x y : Int) (h1 : 0 ≤ x) (h2 : 0 ≤ y) (w : World) :
    Calls Try.prog 8 #[.int .u64 x, .int .u64 y] w fun e w' => (∃ f g, e = .returned (.tuple #[pv 0 0 0 0 0 f g, .int .i64 (newErr x y)])) ∧ Below w.heap.size w w' := by
  unfold newErr
  by_cases h : 1 ≤ x ∧ x ≤ 1000000 ∧ 1 ≤ y ∧ y ≤ 1000000
  · rw [if_pos h]
    exact (new_yes x y h.1 h.2.1 h.2.2.1 h.2.2.2 w).mono fun e w' ⟨he, hb⟩ => ⟨⟨_, _, he⟩, hb⟩
  · rw [if_neg h]
    by_cases hz : x = 0 ∨ y = 0
    · exact (new_zero x y h1 h2 hz w).mono fun e w' ⟨he, hb⟩ => ⟨⟨_, _, he⟩, hb⟩
    · exact (new_big x y (by omega) (by omega) (by omega) w).mono fun e w' ⟨he, hb⟩ => ⟨⟨_, _, he⟩, hb⟩
def mayB (x y : Int) : Bool := decide (1 ≤ x) && decide (x ≤ 1000000) && decide (1 ≤ y) && decide (y ≤ 1000000)
theorem new_fact (x y : Int) : ((newErr x y == 0) == mayB x y) = true := by
  unfold newErr mayB
  by_cases h : 1 ≤ x ∧ x ≤ 1000000 ∧ 1 ≤ y ∧ y ≤ 1000000
  · simp [h]
  · rw [if_neg h]
    have : (decide (1 ≤ x) && decide (x ≤ 1000000) && decide (1 ≤ y) && decide (y ≤ 1000000)) = false := by
      simp only [Bool.and_eq_false_iff, decide_eq_false_iff_not]
      omega
    rw [this]
    rfl

set_option maxRecDepth 100000 in
set_option maxHeartbeats 4000000 in
theorem pw_fine (x y t n q : Int) (h1 : 0 ≤ x) (h2 : 0 ≤ y) (h3 : 1 ≤ t) (h4 : t ≤ 32) (h5 : 0 ≤ n) (h6 : n ≤ 4611686018427387904) (w : World) :
    Calls Try.prog 5 #[.int .u64 x, .int .u64 y, .int .i64 t, .int .u64 n, .int .u32 q] w fun e w' => e = .returned (.bool true) ∧ Below w.heap.size w w' := by
  have hn := new_fact x y
  have hbw := Below.refl w.heap.size w
  go_enter Try.func5, Try.ntmps5
  go_wp2_with fail
  refine (examples_any _).mono ?_
  rintro e1 w1 ⟨rfl, hb1⟩
  replace hbw := hbw.trans (hb1.mono (by have := hbw.size; omega))
  clear hb1
  go_wp2_with fail
  refine (new_any x y h1 h2 _).mono ?_
  rintro e2 w2 ⟨⟨fx, gx, rfl⟩, hb2⟩
  replace hbw := hbw.trans (hb2.mono (by have := hbw.size; omega))
  clear hb2
  go_upto_region 5 with (fail)
  go_cut [14] (fun v14 wc => v14 = .bool (mayB x y) ∧ Below w.heap.size w wc)
  case first =>
    go_wp2
    all_goals go_meet
    all_goals exact ⟨congrArg Value.bool (by unfold mayB; simp [*]; try omega), hbw.alloc (by have := hbw.size; omega) _⟩
  case rest =>
  obtain ⟨rfl, hbw⟩ := hcut
  go_wp2_with fail
  refine (new_yes 3 4 (by omega) (by omega) (by omega) (by omega) _).mono ?_
  rintro e3 w3 ⟨rfl, hb3⟩
  replace hbw := hbw.trans (hb3.mono (by have := hbw.size; omega))
  clear hb3
  go_wp2_with fail
  refine (start_ok 0 0 0 0 3 4 t q n h3 h4 h5 h6 (by omega) (by omega) _).mono ?_
  rintro e4 w4 ⟨rfl, hb4⟩
  have B0 := (Blk.new w3 _ _).keep hb4
  replace hbw := (hbw.alloc (by have := hbw.size; omega) _).trans (hb4.mono (by have := hbw.size; simp; omega))
  clear hb4
  obtain ⟨c0, f0, z0⟩ := B0.all
  go_wp2_with fail
  refine (ack_no 0 0 0 0 0 3 4 q (by omega) _).mono ?_
  rintro e5 w5 ⟨rfl, hb5⟩
  replace B0 := (B0.alloc _).keep hb5
  clear c0 f0 z0
  have B1 := (Blk.new w4 _ _).keep hb5
  replace hbw := (hbw.alloc (by have := hbw.size; omega) _).trans (hb5.mono (by have := hbw.size; simp; omega))
  clear hb5
  obtain ⟨c0, f0, z0⟩ := B0.all
  obtain ⟨c1, f1, z1⟩ := B1.all
  go_wp2_with fail
  refine (nack_no 0 0 0 0 0 3 4 q (by omega) _).mono ?_
  rintro e6 w6 ⟨rfl, hb6⟩
  replace B0 := (B0.alloc _).keep hb6
  clear c0 f0 z0
  replace B1 := (B1.alloc _).keep hb6
  clear c1 f1 z1
  have B2 := (Blk.new w5 _ _).keep hb6
  replace hbw := (hbw.alloc (by have := hbw.size; omega) _).trans (hb6.mono (by have := hbw.size; simp; omega))
  clear hb6
  obtain ⟨c0, f0, z0⟩ := B0.all
  obtain ⟨c1, f1, z1⟩ := B1.all
  obtain ⟨c2, f2, z2⟩ := B2.all
  go_wp2_with fail
  refine (tick_no 0 0 0 0 0 3 4 n (by omega) _).mono ?_
  rintro e7 w7 ⟨rfl, hb7⟩
  replace B0 := (B0.alloc _).keep hb7
  clear c0 f0 z0
  replace B1 := (B1.alloc _).keep hb7
  clear c1 f1 z1
  replace B2 := (B2.alloc _).keep hb7
  clear c2 f2 z2
  have B3 := (Blk.new w6 _ _).keep hb7
  replace hbw := (hbw.alloc (by have := hbw.size; omega) _).trans (hb7.mono (by have := hbw.size; simp; omega))
  clear hb7
  obtain ⟨c0, f0, z0⟩ := B0.all
  obtain ⟨c1, f1, z1⟩ := B1.all
  obtain ⟨c2, f2, z2⟩ := B2.all
  obtain ⟨c3, f3, z3⟩ := B3.all
  go_upto_region 12 with (fail)
  simp only [List.append_eq, List.cons_append, List.nil_append]
  go_wp2
  go_ret
  exact ⟨rfl, hbw.alloc (by have := hbw.size; omega) _⟩

set_option maxRecDepth 100000 in
set_option maxHeartbeats 4000000 in
theorem pw_bad1 (x y t n q : Int) (h1 : 0 ≤ x) (h2 : 0 ≤ y) (h3 : t < 1) (w : World) :
    Calls Try.prog 5 #[.int .u64 x, .int .u64 y, .int .i64 t, .int .u64 n, .int .u32 q] w fun e w' => e = .returned (.bool true) ∧ Below w.heap.size w w' := by
  have hn := new_fact x y
  have hbw := Below.refl w.heap.size w
  go_enter Try.func5, Try.ntmps5
  go_wp2_with fail
  refine (examples_any _).mono ?_
  rintro e1 w1 ⟨rfl, hb1⟩
  replace hbw := hbw.trans (hb1.mono (by have := hbw.size; omega))
  clear hb1
  go_wp2_with fail
  refine (new_any x y h1 h2 _).mono ?_
  rintro e2 w2 ⟨⟨fx, gx, rfl⟩, hb2⟩
  replace hbw := hbw.trans (hb2.mono (by have := hbw.size; omega))
  clear hb2
  go_upto_region 5 with (fail)
  go_cut [14] (fun v14 wc => v14 = .bool (mayB x y) ∧ Below w.heap.size w wc)
  case first =>
    go_wp2
    all_goals go_meet
    all_goals exact ⟨congrArg Value.bool (by unfold mayB; simp [*]; try omega), hbw.alloc (by have := hbw.size; omega) _⟩
  case rest =>
  obtain ⟨rfl, hbw⟩ := hcut
  go_wp2_with fail
  refine (new_yes 3 4 (by omega) (by omega) (by omega) (by omega) _).mono ?_
  rintro e3 w3 ⟨rfl, hb3⟩
  replace hbw := hbw.trans (hb3.mono (by have := hbw.size; omega))
  clear hb3
  go_wp2_with fail
  refine (start_arg 0 0 0 0 0 3 4 t q n (by omega) _).mono ?_
  rintro e4 w4 ⟨rfl, hb4⟩
  have B0 := (Blk.new w3 _ _).keep hb4
  replace hbw := (hbw.alloc (by have := hbw.size; omega) _).trans (hb4.mono (by have := hbw.size; simp; omega))
  clear hb4
  obtain ⟨c0, f0, z0⟩ := B0.all
  go_wp2_with fail
  refine (ack_no 0 0 0 0 0 3 4 q (by omega) _).mono ?_
  rintro e5 w5 ⟨rfl, hb5⟩
  replace B0 := (B0.alloc _).keep hb5
  clear c0 f0 z0
  have B1 := (Blk.new w4 _ _).keep hb5
  replace hbw := (hbw.alloc (by have := hbw.size; omega) _).trans (hb5.mono (by have := hbw.size; simp; omega))
  clear hb5
  obtain ⟨c0, f0, z0⟩ := B0.all
  obtain ⟨c1, f1, z1⟩ := B1.all
  go_wp2_with fail
  refine (nack_no 0 0 0 0 0 3 4 q (by omega) _).mono ?_
  rintro e6 w6 ⟨rfl, hb6⟩
  replace B0 := (B0.alloc _).keep hb6
  clear c0 f0 z0
  replace B1 := (B1.alloc _).keep hb6
  clear c1 f1 z1
  have B2 := (Blk.new w5 _ _).keep hb6
  replace hbw := (hbw.alloc (by have := hbw.size; omega) _).trans (hb6.mono (by have := hbw.size; simp; omega))
  clear hb6
  obtain ⟨c0, f0, z0⟩ := B0.all
  obtain ⟨c1, f1, z1⟩ := B1.all
  obtain ⟨c2, f2, z2⟩ := B2.all
  go_wp2_with fail
  refine (tick_no 0 0 0 0 0 3 4 n (by omega) _).mono ?_
  rintro e7 w7 ⟨rfl, hb7⟩
  replace B0 := (B0.alloc _).keep hb7
  clear c0 f0 z0
  replace B1 := (B1.alloc _).keep hb7
  clear c1 f1 z1
  replace B2 := (B2.alloc _).keep hb7
  clear c2 f2 z2
  have B3 := (Blk.new w6 _ _).keep hb7
  replace hbw := (hbw.alloc (by have := hbw.size; omega) _).trans (hb7.mono (by have := hbw.size; simp; omega))
  clear hb7
  obtain ⟨c0, f0, z0⟩ := B0.all
  obtain ⟨c1, f1, z1⟩ := B1.all
  obtain ⟨c2, f2, z2⟩ := B2.all
  obtain ⟨c3, f3, z3⟩ := B3.all
  go_upto_region 12 with (fail)
  simp only [List.append_eq, List.cons_append, List.nil_append]
  go_wp2
  go_ret
  exact ⟨rfl, hbw.alloc (by have := hbw.size; omega) _⟩

set_option maxRecDepth 100000 in
set_option maxHeartbeats 4000000 in
theorem pw_bad2 (x y t n q : Int) (h1 : 0 ≤ x) (h2 : 0 ≤ y) (h3 : 32 < t) (w : World) :
    Calls Try.prog 5 #[.int .u64 x, .int .u64 y, .int .i64 t, .int .u64 n, .int .u32 q] w fun e w' => e = .returned (.bool true) ∧ Below w.heap.size w w' := by
  have hn := new_fact x y
  have hbw := Below.refl w.heap.size w
  go_enter Try.func5, Try.ntmps5
  go_wp2_with fail
  refine (examples_any _).mono ?_
  rintro e1 w1 ⟨rfl, hb1⟩
  replace hbw := hbw.trans (hb1.mono (by have := hbw.size; omega))
  clear hb1
  go_wp2_with fail
  refine (new_any x y h1 h2 _).mono ?_
  rintro e2 w2 ⟨⟨fx, gx, rfl⟩, hb2⟩
  replace hbw := hbw.trans (hb2.mono (by have := hbw.size; omega))
  clear hb2
  go_upto_region 5 with (fail)
  go_cut [14] (fun v14 wc => v14 = .bool (mayB x y) ∧ Below w.heap.size w wc)
  case first =>
    go_wp2
    all_goals go_meet
    all_goals exact ⟨congrArg Value.bool (by unfold mayB; simp [*]; try omega), hbw.alloc (by have := hbw.size; omega) _⟩
  case rest =>
  obtain ⟨rfl, hbw⟩ := hcut
  go_wp2_with fail
  refine (new_yes 3 4 (by omega) (by omega) (by omega) (by omega) _).mono ?_
  rintro e3 w3 ⟨rfl, hb3⟩
  replace hbw := hbw.trans (hb3.mono (by have := hbw.size; omega))
  clear hb3
  go_wp2_with fail
  refine (start_arg 0 0 0 0 0 3 4 t q n (by omega) _).mono ?_
  rintro e4 w4 ⟨rfl, hb4⟩
  have B0 := (Blk.new w3 _ _).keep hb4
  replace hbw := (hbw.alloc (by have := hbw.size; omega) _).trans (hb4.mono (by have := hbw.size; simp; omega))
  clear hb4
  obtain ⟨c0, f0, z0⟩ := B0.all
  go_wp2_with fail
  refine (ack_no 0 0 0 0 0 3 4 q (by omega) _).mono ?_
  rintro e5 w5 ⟨rfl, hb5⟩
  replace B0 := (B0.alloc _).keep hb5
  clear c0 f0 z0
  have B1 := (Blk.new w4 _ _).keep hb5
  replace hbw := (hbw.alloc (by have := hbw.size; omega) _).trans (hb5.mono (by have := hbw.size; simp; omega))
  clear hb5
  obtain ⟨c0, f0, z0⟩ := B0.all
  obtain ⟨c1, f1, z1⟩ := B1.all
  go_wp2_with fail
  refine (nack_no 0 0 0 0 0 3 4 q (by omega) _).mono ?_
  rintro e6 w6 ⟨rfl, hb6⟩
  replace B0 := (B0.alloc _).keep hb6
  clear c0 f0 z0
  replace B1 := (B1.alloc _).keep hb6
  clear c1 f1 z1
  have B2 := (Blk.new w5 _ _).keep hb6
  replace hbw := (hbw.alloc (by have := hbw.size; omega) _).trans (hb6.mono (by have := hbw.size; simp; omega))
  clear hb6
  obtain ⟨c0, f0, z0⟩ := B0.all
  obtain ⟨c1, f1, z1⟩ := B1.all
  obtain ⟨c2, f2, z2⟩ := B2.all
  go_wp2_with fail
  refine (tick_no 0 0 0 0 0 3 4 n (by omega) _).mono ?_
  rintro e7 w7 ⟨rfl, hb7⟩
  replace B0 := (B0.alloc _).keep hb7
  clear c0 f0 z0
  replace B1 := (B1.alloc _).keep hb7
  clear c1 f1 z1
  replace B2 := (B2.alloc _).keep hb7
  clear c2 f2 z2
  have B3 := (Blk.new w6 _ _).keep hb7
  replace hbw := (hbw.alloc (by have := hbw.size; omega) _).trans (hb7.mono (by have := hbw.size; simp; omega))
  clear hb7
  obtain ⟨c0, f0, z0⟩ := B0.all
  obtain ⟨c1, f1, z1⟩ := B1.all
  obtain ⟨c2, f2, z2⟩ := B2.all
  obtain ⟨c3, f3, z3⟩ := B3.all
  go_upto_region 12 with (fail)
  simp only [List.append_eq, List.cons_append, List.nil_append]
  go_wp2
  go_ret
  exact ⟨rfl, hbw.alloc (by have := hbw.size; omega) _⟩

set_option maxRecDepth 100000 in
set_option maxHeartbeats 4000000 in
theorem pw_bad3 (x y t n q : Int) (h1 : 0 ≤ x) (h2 : 0 ≤ y) (h3 : 1 ≤ t) (h4 : t ≤ 32) (h5 : 4611686018427387904 < n) (w : World) :
    Calls Try.prog 5 #[.int .u64 x, .int .u64 y, .int .i64 t, .int .u64 n, .int .u32 q] w fun e w' => e = .returned (.bool true) ∧ Below w.heap.size w w' := by
  have hn := new_fact x y
  have hbw := Below.refl w.heap.size w
  go_enter Try.func5, Try.ntmps5
  go_wp2_with fail
  refine (examples_any _).mono ?_
  rintro e1 w1 ⟨rfl, hb1⟩
  replace hbw := hbw.trans (hb1.mono (by have := hbw.size; omega))
  clear hb1
  go_wp2_with fail
  refine (new_any x y h1 h2 _).mono ?_
  rintro e2 w2 ⟨⟨fx, gx, rfl⟩, hb2⟩
  replace hbw := hbw.trans (hb2.mono (by have := hbw.size; omega))
  clear hb2
  go_upto_region 5 with (fail)
  go_cut [14] (fun v14 wc => v14 = .bool (mayB x y) ∧ Below w.heap.size w wc)
  case first =>
    go_wp2
    all_goals go_meet
    all_goals exact ⟨congrArg Value.bool (by unfold mayB; simp [*]; try omega), hbw.alloc (by have := hbw.size; omega) _⟩
  case rest =>
  obtain ⟨rfl, hbw⟩ := hcut
  go_wp2_with fail
  refine (new_yes 3 4 (by omega) (by omega) (by omega) (by omega) _).mono ?_
  rintro e3 w3 ⟨rfl, hb3⟩
  replace hbw := hbw.trans (hb3.mono (by have := hbw.size; omega))
  clear hb3
  go_wp2_with fail
  refine (start_arg 0 0 0 0 0 3 4 t q n (by omega) _).mono ?_
  rintro e4 w4 ⟨rfl, hb4⟩
  have B0 := (Blk.new w3 _ _).keep hb4
  replace hbw := (hbw.alloc (by have := hbw.size; omega) _).trans (hb4.mono (by have := hbw.size; simp; omega))
  clear hb4
  obtain ⟨c0, f0, z0⟩ := B0.all
  go_wp2_with fail
  refine (ack_no 0 0 0 0 0 3 4 q (by omega) _).mono ?_
  rintro e5 w5 ⟨rfl, hb5⟩
  replace B0 := (B0.alloc _).keep hb5
  clear c0 f0 z0
  have B1 := (Blk.new w4 _ _).keep hb5
  replace hbw := (hbw.alloc (by have := hbw.size; omega) _).trans (hb5.mono (by have := hbw.size; simp; omega))
  clear hb5
  obtain ⟨c0, f0, z0⟩ := B0.all
  obtain ⟨c1, f1, z1⟩ := B1.all
  go_wp2_with fail
  refine (nack_no 0 0 0 0 0 3 4 q (by omega) _).mono ?_
  rintro e6 w6 ⟨rfl, hb6⟩
  replace B0 := (B0.alloc _).keep hb6
  clear c0 f0 z0
  replace B1 := (B1.alloc _).keep hb6
  clear c1 f1 z1
  have B2 := (Blk.new w5 _ _).keep hb6
  replace hbw := (hbw.alloc (by have := hbw.size; omega) _).trans (hb6.mono (by have := hbw.size; simp; omega))
  clear hb6
  obtain ⟨c0, f0, z0⟩ := B0.all
  obtain ⟨c1, f1, z1⟩ := B1.all
  obtain ⟨c2, f2, z2⟩ := B2.all
  go_wp2_with fail
  refine (tick_no 0 0 0 0 0 3 4 n (by omega) _).mono ?_
  rintro e7 w7 ⟨rfl, hb7⟩
  replace B0 := (B0.alloc _).keep hb7
  clear c0 f0 z0
  replace B1 := (B1.alloc _).keep hb7
  clear c1 f1 z1
  replace B2 := (B2.alloc _).keep hb7
  clear c2 f2 z2
  have B3 := (Blk.new w6 _ _).keep hb7
  replace hbw := (hbw.alloc (by have := hbw.size; omega) _).trans (hb7.mono (by have := hbw.size; simp; omega))
  clear hb7
  obtain ⟨c0, f0, z0⟩ := B0.all
  obtain ⟨c1, f1, z1⟩ := B1.all
  obtain ⟨c2, f2, z2⟩ := B2.all
  obtain ⟨c3, f3, z3⟩ := B3.all
  go_upto_region 12 with (fail)
  simp only [List.append_eq, List.cons_append, List.nil_append]
  go_wp2
  go_ret
  exact ⟨rfl, hbw.alloc (by have := hbw.size; omega) _⟩

theorem pw_any (x y t n q : Int) (h1 : 0 ≤ x) (h2 : 0 ≤ y) (h3 : 0 ≤ n) (w : World) :
    Calls Try.prog 5 #[.int .u64 x, .int .u64 y, .int .i64 t, .int .u64 n, .int .u32 q] w fun e w' => e = .returned (.bool true) ∧ Below w.heap.size w w' := by
  by_cases a : t < 1
  · exact pw_bad1 x y t n q h1 h2 a w
  · by_cases b : 32 < t
    · exact pw_bad2 x y t n q h1 h2 b w
    · by_cases c : 4611686018427387904 < n
      · exact pw_bad3 x y t n q h1 h2 (by omega) (by omega) c w
      · exact pw_fine x y t n q h1 h2 (by omega) (by omega) h3 (by omega) w
end Go.Proofs.Ytkognfcoafmcmaa
