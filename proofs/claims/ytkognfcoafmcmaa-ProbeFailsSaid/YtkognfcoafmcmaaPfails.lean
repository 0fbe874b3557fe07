/- What ProbeFails does: at all arguments it answers true, and changes nothing that was there. -/
import Derived.Test.YtkognfcoafmcmaaKb
import Derived.Deep.LoopGhost
namespace Go.Proofs.Ytkognfcoafmcmaa
open Go.RowKit

def PFtrue (a b d : Int) (v16 v17 v19 : Value) (wr : World) (g0 g1 : Nat) : Prop :=
  (∃ t : Nat, v16 = .int .i64 0 ∧ v17 = .int .i64 0 ∧ v19 = .int .u64 t ∧ (t : Int) ≤ a ∧ (t : Int) ≤ d ∧ Blk wr g0 26 (pc 1 3 0 7 (100 + a) a b) ∧ Blk wr g1 26 (pc 0 0 0 0 0 a b)) ∨
  (∃ t : Nat, v16 = .int .i64 1 ∧ v17 = .int .i64 0 ∧ v19 = .int .u64 t ∧ a < (t : Int) ∧ (t : Int) ≤ a + b ∧ (t : Int) ≤ d ∧ Blk wr g0 26 (pc 2 3 0 7 (100 + a + b) a b) ∧ Blk wr g1 26 (pc 0 0 0 0 0 a b)) ∨
  (∃ (t : Nat) (asks fails : Int), v16 = .int .i64 asks ∧ v17 = .int .i64 fails ∧ v19 = .int .u64 t ∧ t ≤ 120 ∧ (d ≤ a ∧ asks = 0 ∨ a < d ∧ asks = 1) ∧ (d ≤ a + b ∧ fails = 0 ∨ a + b < d ∧ fails = 1) ∧ Blk wr g0 26 (pc 0 0 0 0 0 a b) ∧ Blk wr g1 26 (pc 0 0 0 0 0 a b))

set_option maxRecDepth 100000 in
set_option maxHeartbeats 40000000 in
theorem pf_true (x y z a b d : Int) (h1 : 0 ≤ x) (h1' : x ≤ 255) (h2 : 0 ≤ y) (h2' : y ≤ 255) (h3 : 0 ≤ z) (h3' : z ≤ 255)
    (ha : 1 + x % 50 = a) (hb : 1 + y % 50 = b) (hd : z % 130 = d) (a1 : 1 ≤ a) (a2 : a ≤ 50) (b1 : 1 ≤ b) (b2 : b ≤ 50) (d1 : 0 ≤ d) (d2 : d ≤ 129) (w : World) :
    Calls Try.prog 3 #[.int .u8 x, .int .u8 y, .int .u8 z, .bool true] w fun e w' => e = .returned (.bool true) ∧ Below w.heap.size w w' := by
  have hbw := Below.refl w.heap.size w
  go_enter Try.func3, Try.ntmps3
  go_wp2_with fail
  refine (examples_any _).mono ?_
  rintro e1 w1 ⟨rfl, hb1⟩
  replace hbw := hbw.trans (hb1.mono (by have := hbw.size; omega))
  clear hb1
  go_wp2_with fail
  refine (new_yes a b (by omega) (by omega) (by omega) (by omega) _).mono ?_
  rintro e2 w2 ⟨rfl, hb2⟩
  replace hbw := hbw.trans (hb2.mono (by have := hbw.size; omega))
  clear hb2
  go_wp2_with fail
  refine (start_ok 0 0 0 0 a b 3 7 100 (by omega) (by omega) (by omega) (by omega) (by omega) (by omega) _).mono ?_
  rintro e3 w3 ⟨rfl, hb3⟩
  have G0 := hbw.size
  have G1 : w.heap.size ≤ w2.heap.size + 1 := by omega
  have n0_1 : w2.heap.size ≠ w2.heap.size + 1 := by omega
  have n1_0 := Ne.symm n0_1
  have B0 := ((Blk.new w2 _ _).alloc _).keep hb3
  have B1 := (Blk.new (w2.alloc _) _ _).keep hb3
  simp only [World.size_alloc] at B1
  replace hbw := ((hbw.alloc (by have := hbw.size; omega) _).alloc (by have := hbw.size; simp; omega) _).trans (hb3.mono (by have := hbw.size; simp; omega))
  clear hb3
  obtain ⟨c0, f0, z0⟩ := B0.all
  obtain ⟨c1, f1, z1⟩ := B1.all
  go_wp2_with fail
  rw [hd]
  clear hd ha hb
  go_loopw [16, 17, 19] (fun v16 v17 v19 wr => PFtrue a b d v16 v17 v19 wr w2.heap.size (w2.heap.size + 1) ∧ Below w.heap.size w wr) (fun _ _ v19 _ => 120 - (intOf v19).toNat)
  case atStart => exact ⟨Or.inl ⟨0, rfl, rfl, rfl, by omega, by omega, B0.put7, B1.far7 n1_0⟩, below7 hbw G0⟩
  case round =>
    clear B0 B1 c0 f0 z0 c1 f1 z1 hbw
    obtain ⟨hrel, hbw⟩ := hrel
    rcases hrel with ⟨t, rfl, rfl, rfl, ht, ho, B0, B1⟩ | ⟨t, rfl, rfl, rfl, ht0, ht, ho, B0, B1⟩ | ⟨t, asks, fails, rfl, rfl, rfl, ht, hA, hF, B0, B1⟩
    · have hlt120 : t < 120 := by omega
      by_cases hat : (t : Int) = d
      · have hat1 : (t : Int) ≤ d := by omega
        have hat2 : d ≤ (t : Int) := by omega
        replace hat := beq_iff_eq.2 hat
        obtain ⟨c0, f0, z0⟩ := B0.all
        obtain ⟨c1, f1, z1⟩ := B1.all
        go_wp2_with fail
        refine (ack_yes 1 3 0 7 (100 + a) a b (by omega) _).mono ?_
        rintro e11 w11 ⟨rfl, hb11⟩
        clear c0 f0 z0
        clear c1 f1 z1
        replace B0 := B0.keep hb11
        replace B1 := B1.keep hb11
        replace hbw := hbw.trans (hb11.mono (by have := hbw.size; omega))
        clear hb11
        obtain ⟨c0, f0, z0⟩ := B0.all
        obtain ⟨c1, f1, z1⟩ := B1.all
        go_wp2_with fail
        refine (tick_no 0 0 0 0 0 a b (100 + (t : Int)) (by omega) _).mono ?_
        rintro e12 w12 ⟨rfl, hb12⟩
        clear c0 f0 z0
        clear c1 f1 z1
        replace B0 := (B0.put7.alloc _).keep hb12
        replace B1 := ((B1.far7 n1_0).alloc _).keep hb12
        replace hbw := ((below7 hbw G0).alloc (by have := hbw.size; simp; omega) _).trans (hb12.mono (by have := hbw.size; simp; omega))
        clear hb12
        obtain ⟨c0, f0, z0⟩ := B0.all
        obtain ⟨c1, f1, z1⟩ := B1.all
        go_wp2
        go_roundw
        case rel => exact ⟨Or.inr (Or.inr ⟨t + 1, 0, 0, rfl, rfl, by go_num, by omega, by omega, by omega, B0.put7.alloc _, (B1.far7 n1_0).alloc _⟩), (below7 hbw G0).alloc (by have := hbw.size; simp; omega) _⟩
        case measure => simp [intOf]; omega
      · have hat' := ne_b hat
        by_cases he : (t : Int) = a
        · have hne := eq_n he
          have he1 : (t : Int) ≤ a := by omega
          have he2 : a ≤ (t : Int) := by omega
          clear he
          obtain ⟨c0, f0, z0⟩ := B0.all
          obtain ⟨c1, f1, z1⟩ := B1.all
          go_wp2_with fail
          refine (tick_ask 3 0 7 (100 + a) a b (100 + (t : Int)) (by omega) (by omega) (by omega) (by omega) (by omega) _).mono ?_
          rintro e11 w11 ⟨rfl, hb11⟩
          clear c0 f0 z0
          clear c1 f1 z1
          replace B0 := B0.keep hb11
          replace B1 := B1.keep hb11
          replace hbw := hbw.trans (hb11.mono (by have := hbw.size; omega))
          clear hb11
          obtain ⟨c0, f0, z0⟩ := B0.all
          obtain ⟨c1, f1, z1⟩ := B1.all
          go_wp2
          go_roundw
          case rel => exact ⟨Or.inr (Or.inl ⟨t + 1, rfl, rfl, by go_num, by omega, by omega, by omega, B0.put7.alloc _, (B1.far7 n1_0).alloc _⟩), (below7 hbw G0).alloc (by have := hbw.size; simp; omega) _⟩
          case measure => simp [intOf]; omega
        · have hlt : (t : Int) < a := by omega
          clear he
          obtain ⟨c0, f0, z0⟩ := B0.all
          obtain ⟨c1, f1, z1⟩ := B1.all
          go_wp2_with fail
          refine (tick_no 1 3 0 7 (100 + a) a b (100 + (t : Int)) (by omega) _).mono ?_
          rintro e11 w11 ⟨rfl, hb11⟩
          clear c0 f0 z0
          clear c1 f1 z1
          replace B0 := B0.keep hb11
          replace B1 := B1.keep hb11
          replace hbw := hbw.trans (hb11.mono (by have := hbw.size; omega))
          clear hb11
          obtain ⟨c0, f0, z0⟩ := B0.all
          obtain ⟨c1, f1, z1⟩ := B1.all
          go_wp2
          go_roundw
          case rel => exact ⟨Or.inl ⟨t + 1, rfl, rfl, by go_num, by omega, by omega, B0.put7.alloc _, (B1.far7 n1_0).alloc _⟩, (below7 hbw G0).alloc (by have := hbw.size; simp; omega) _⟩
          case measure => simp [intOf]; omega
    · have hlt120 : t < 120 := by omega
      by_cases hat : (t : Int) = d
      · have hat1 : (t : Int) ≤ d := by omega
        have hat2 : d ≤ (t : Int) := by omega
        replace hat := beq_iff_eq.2 hat
        obtain ⟨c0, f0, z0⟩ := B0.all
        obtain ⟨c1, f1, z1⟩ := B1.all
        go_wp2_with fail
        refine (ack_yes 2 3 0 7 (100 + a + b) a b (by omega) _).mono ?_
        rintro e11 w11 ⟨rfl, hb11⟩
        clear c0 f0 z0
        clear c1 f1 z1
        replace B0 := B0.keep hb11
        replace B1 := B1.keep hb11
        replace hbw := hbw.trans (hb11.mono (by have := hbw.size; omega))
        clear hb11
        obtain ⟨c0, f0, z0⟩ := B0.all
        obtain ⟨c1, f1, z1⟩ := B1.all
        go_wp2_with fail
        refine (tick_no 0 0 0 0 0 a b (100 + (t : Int)) (by omega) _).mono ?_
        rintro e12 w12 ⟨rfl, hb12⟩
        clear c0 f0 z0
        clear c1 f1 z1
        replace B0 := (B0.put7.alloc _).keep hb12
        replace B1 := ((B1.far7 n1_0).alloc _).keep hb12
        replace hbw := ((below7 hbw G0).alloc (by have := hbw.size; simp; omega) _).trans (hb12.mono (by have := hbw.size; simp; omega))
        clear hb12
        obtain ⟨c0, f0, z0⟩ := B0.all
        obtain ⟨c1, f1, z1⟩ := B1.all
        go_wp2
        go_roundw
        case rel => exact ⟨Or.inr (Or.inr ⟨t + 1, 1, 0, rfl, rfl, by go_num, by omega, by omega, by omega, B0.put7.alloc _, (B1.far7 n1_0).alloc _⟩), (below7 hbw G0).alloc (by have := hbw.size; simp; omega) _⟩
        case measure => simp [intOf]; omega
      · have hat' := ne_b hat
        by_cases he : (t : Int) = a + b
        · have hne := eq_n he
          have he1 : (t : Int) ≤ a + b := by omega
          have he2 : a + b ≤ (t : Int) := by omega
          clear he
          obtain ⟨c0, f0, z0⟩ := B0.all
          obtain ⟨c1, f1, z1⟩ := B1.all
          go_wp2_with fail
          refine (tick_fail 3 0 7 (100 + a + b) a b (100 + (t : Int)) (by omega) _).mono ?_
          rintro e11 w11 ⟨rfl, hb11⟩
          clear c0 f0 z0
          clear c1 f1 z1
          replace B0 := B0.keep hb11
          replace B1 := B1.keep hb11
          replace hbw := hbw.trans (hb11.mono (by have := hbw.size; omega))
          clear hb11
          obtain ⟨c0, f0, z0⟩ := B0.all
          obtain ⟨c1, f1, z1⟩ := B1.all
          go_wp2
          go_roundw
          case rel => exact ⟨Or.inr (Or.inr ⟨t + 1, 1, 1, rfl, rfl, by go_num, by omega, by omega, by omega, B0.put7.alloc _, (B1.far7 n1_0).alloc _⟩), (below7 hbw G0).alloc (by have := hbw.size; simp; omega) _⟩
          case measure => simp [intOf]; omega
        · have hlt : (t : Int) < a + b := by omega
          clear he
          obtain ⟨c0, f0, z0⟩ := B0.all
          obtain ⟨c1, f1, z1⟩ := B1.all
          go_wp2_with fail
          refine (tick_no 2 3 0 7 (100 + a + b) a b (100 + (t : Int)) (by omega) _).mono ?_
          rintro e11 w11 ⟨rfl, hb11⟩
          clear c0 f0 z0
          clear c1 f1 z1
          replace B0 := B0.keep hb11
          replace B1 := B1.keep hb11
          replace hbw := hbw.trans (hb11.mono (by have := hbw.size; omega))
          clear hb11
          obtain ⟨c0, f0, z0⟩ := B0.all
          obtain ⟨c1, f1, z1⟩ := B1.all
          go_wp2
          go_roundw
          case rel => exact ⟨Or.inr (Or.inl ⟨t + 1, rfl, rfl, by go_num, by omega, by omega, by omega, B0.put7.alloc _, (B1.far7 n1_0).alloc _⟩), (below7 hbw G0).alloc (by have := hbw.size; simp; omega) _⟩
          case measure => simp [intOf]; omega
    · by_cases hlt120 : t < 120
      · by_cases hat : (t : Int) = d
        · have hat1 : (t : Int) ≤ d := by omega
          have hat2 : d ≤ (t : Int) := by omega
          replace hat := beq_iff_eq.2 hat
          obtain ⟨c0, f0, z0⟩ := B0.all
          obtain ⟨c1, f1, z1⟩ := B1.all
          go_wp2_with fail
          refine (ack_no 0 0 0 0 0 a b 7 (by omega) _).mono ?_
          rintro e11 w11 ⟨rfl, hb11⟩
          clear c0 f0 z0
          clear c1 f1 z1
          replace B0 := B0.keep hb11
          replace B1 := B1.keep hb11
          replace hbw := hbw.trans (hb11.mono (by have := hbw.size; omega))
          clear hb11
          obtain ⟨c0, f0, z0⟩ := B0.all
          obtain ⟨c1, f1, z1⟩ := B1.all
          go_wp2_with fail
          refine (tick_no 0 0 0 0 0 a b (100 + (t : Int)) (by omega) _).mono ?_
          rintro e12 w12 ⟨rfl, hb12⟩
          clear c0 f0 z0
          clear c1 f1 z1
          replace B0 := (B0.put7.alloc _).keep hb12
          replace B1 := ((B1.far7 n1_0).alloc _).keep hb12
          replace hbw := ((below7 hbw G0).alloc (by have := hbw.size; simp; omega) _).trans (hb12.mono (by have := hbw.size; simp; omega))
          clear hb12
          obtain ⟨c0, f0, z0⟩ := B0.all
          obtain ⟨c1, f1, z1⟩ := B1.all
          go_wp2
          go_roundw
          case rel => exact ⟨Or.inr (Or.inr ⟨t + 1, asks, fails, rfl, rfl, by go_num, by omega, by omega, by omega, B0.put7.alloc _, (B1.far7 n1_0).alloc _⟩), (below7 hbw G0).alloc (by have := hbw.size; simp; omega) _⟩
          case measure => simp [intOf]; omega
        · have hat' := ne_b hat
          obtain ⟨c0, f0, z0⟩ := B0.all
          obtain ⟨c1, f1, z1⟩ := B1.all
          go_wp2_with fail
          refine (tick_no 0 0 0 0 0 a b (100 + (t : Int)) (by omega) _).mono ?_
          rintro e11 w11 ⟨rfl, hb11⟩
          clear c0 f0 z0
          clear c1 f1 z1
          replace B0 := B0.keep hb11
          replace B1 := B1.keep hb11
          replace hbw := hbw.trans (hb11.mono (by have := hbw.size; omega))
          clear hb11
          obtain ⟨c0, f0, z0⟩ := B0.all
          obtain ⟨c1, f1, z1⟩ := B1.all
          go_wp2
          go_roundw
          case rel => exact ⟨Or.inr (Or.inr ⟨t + 1, asks, fails, rfl, rfl, by go_num, by omega, by omega, by omega, B0.put7.alloc _, (B1.far7 n1_0).alloc _⟩), (below7 hbw G0).alloc (by have := hbw.size; simp; omega) _⟩
          case measure => simp [intOf]; omega
      · obtain rfl : t = 120 := by omega
        obtain ⟨c0, f0, z0⟩ := B0.all
        obtain ⟨c1, f1, z1⟩ := B1.all
        by_cases h1 : d ≤ a
        · have h2 : d ≤ a + b := by omega
          obtain rfl : asks = 0 := by omega
          obtain rfl : fails = 0 := by omega
          go_wp2
          all_goals (go_ret; exact ⟨rfl, hbw⟩)
        · obtain rfl : asks = 1 := by omega
          by_cases h2 : d ≤ a + b
          · obtain rfl : fails = 0 := by omega
            go_wp2
            all_goals (go_ret; exact ⟨rfl, hbw⟩)
          · obtain rfl : fails = 1 := by omega
            go_wp2
            all_goals (go_ret; exact ⟨rfl, hbw⟩)

def PFfalse (a b _d : Int) (v16 v17 v19 : Value) (wr : World) (g0 g1 : Nat) : Prop :=
  (∃ t : Nat, v16 = .int .i64 0 ∧ v17 = .int .i64 0 ∧ v19 = .int .u64 t ∧ (t : Int) ≤ a ∧ True ∧ Blk wr g0 26 (pc 1 3 0 7 (100 + a) a b) ∧ Blk wr g1 26 (pc 0 0 0 0 0 a b)) ∨
  (∃ t : Nat, v16 = .int .i64 1 ∧ v17 = .int .i64 0 ∧ v19 = .int .u64 t ∧ a < (t : Int) ∧ (t : Int) ≤ a + b ∧ True ∧ Blk wr g0 26 (pc 2 3 0 7 (100 + a + b) a b) ∧ Blk wr g1 26 (pc 0 0 0 0 0 a b)) ∨
  (∃ (t : Nat) (asks fails : Int), v16 = .int .i64 asks ∧ v17 = .int .i64 fails ∧ v19 = .int .u64 t ∧ t ≤ 120 ∧ asks = 1 ∧ fails = 1 ∧ Blk wr g0 26 (pc 0 0 0 0 0 a b) ∧ Blk wr g1 26 (pc 0 0 0 0 0 a b))

set_option maxRecDepth 100000 in
set_option maxHeartbeats 40000000 in
theorem pf_false (x y z a b d : Int) (h1 : 0 ≤ x) (h1' : x ≤ 255) (h2 : 0 ≤ y) (h2' : y ≤ 255) (h3 : 0 ≤ z) (h3' : z ≤ 255)
    (ha : 1 + x % 50 = a) (hb : 1 + y % 50 = b) (hd : z % 130 = d) (a1 : 1 ≤ a) (a2 : a ≤ 50) (b1 : 1 ≤ b) (b2 : b ≤ 50) (_d1 : 0 ≤ d) (_d2 : d ≤ 129) (w : World) :
    Calls Try.prog 3 #[.int .u8 x, .int .u8 y, .int .u8 z, .bool false] w fun e w' => e = .returned (.bool true) ∧ Below w.heap.size w w' := by
  have hbw := Below.refl w.heap.size w
  go_enter Try.func3, Try.ntmps3
  go_wp2_with fail
  refine (examples_any _).mono ?_
  rintro e1 w1 ⟨rfl, hb1⟩
  replace hbw := hbw.trans (hb1.mono (by have := hbw.size; omega))
  clear hb1
  go_wp2_with fail
  refine (new_yes a b (by omega) (by omega) (by omega) (by omega) _).mono ?_
  rintro e2 w2 ⟨rfl, hb2⟩
  replace hbw := hbw.trans (hb2.mono (by have := hbw.size; omega))
  clear hb2
  go_wp2_with fail
  refine (start_ok 0 0 0 0 a b 3 7 100 (by omega) (by omega) (by omega) (by omega) (by omega) (by omega) _).mono ?_
  rintro e3 w3 ⟨rfl, hb3⟩
  have G0 := hbw.size
  have G1 : w.heap.size ≤ w2.heap.size + 1 := by omega
  have n0_1 : w2.heap.size ≠ w2.heap.size + 1 := by omega
  have n1_0 := Ne.symm n0_1
  have B0 := ((Blk.new w2 _ _).alloc _).keep hb3
  have B1 := (Blk.new (w2.alloc _) _ _).keep hb3
  simp only [World.size_alloc] at B1
  replace hbw := ((hbw.alloc (by have := hbw.size; omega) _).alloc (by have := hbw.size; simp; omega) _).trans (hb3.mono (by have := hbw.size; simp; omega))
  clear hb3
  obtain ⟨c0, f0, z0⟩ := B0.all
  obtain ⟨c1, f1, z1⟩ := B1.all
  go_wp2_with fail
  rw [hd]
  clear hd ha hb
  go_loopw [16, 17, 19] (fun v16 v17 v19 wr => PFfalse a b d v16 v17 v19 wr w2.heap.size (w2.heap.size + 1) ∧ Below w.heap.size w wr) (fun _ _ v19 _ => 120 - (intOf v19).toNat)
  case atStart => exact ⟨Or.inl ⟨0, rfl, rfl, rfl, by omega, trivial, B0.put7, B1.far7 n1_0⟩, below7 hbw G0⟩
  case round =>
    clear B0 B1 c0 f0 z0 c1 f1 z1 hbw
    obtain ⟨hrel, hbw⟩ := hrel
    rcases hrel with ⟨t, rfl, rfl, rfl, ht, ho, B0, B1⟩ | ⟨t, rfl, rfl, rfl, ht0, ht, ho, B0, B1⟩ | ⟨t, asks, fails, rfl, rfl, rfl, ht, rfl, rfl, B0, B1⟩
    · have hlt120 : t < 120 := by omega
      by_cases hat : (t : Int) = d
      · have hat1 : (t : Int) ≤ d := by omega
        have hat2 : d ≤ (t : Int) := by omega
        replace hat := beq_iff_eq.2 hat
        by_cases he : (t : Int) = a
        · have hne := eq_n he
          have he1 : (t : Int) ≤ a := by omega
          have he2 : a ≤ (t : Int) := by omega
          clear he
          obtain ⟨c0, f0, z0⟩ := B0.all
          obtain ⟨c1, f1, z1⟩ := B1.all
          go_wp2_with fail
          refine (ack_no 1 3 0 7 (100 + a) a b 8 (by omega) _).mono ?_
          rintro e11 w11 ⟨rfl, hb11⟩
          clear c0 f0 z0
          clear c1 f1 z1
          replace B0 := B0.keep hb11
          replace B1 := B1.keep hb11
          replace hbw := hbw.trans (hb11.mono (by have := hbw.size; omega))
          clear hb11
          obtain ⟨c0, f0, z0⟩ := B0.all
          obtain ⟨c1, f1, z1⟩ := B1.all
          go_wp2_with fail
          refine (tick_ask 3 0 7 (100 + a) a b (100 + (t : Int)) (by omega) (by omega) (by omega) (by omega) (by omega) _).mono ?_
          rintro e12 w12 ⟨rfl, hb12⟩
          clear c0 f0 z0
          clear c1 f1 z1
          replace B0 := (B0.put7.alloc _).keep hb12
          replace B1 := ((B1.far7 n1_0).alloc _).keep hb12
          replace hbw := ((below7 hbw G0).alloc (by have := hbw.size; simp; omega) _).trans (hb12.mono (by have := hbw.size; simp; omega))
          clear hb12
          obtain ⟨c0, f0, z0⟩ := B0.all
          obtain ⟨c1, f1, z1⟩ := B1.all
          go_wp2
          go_roundw
          case rel => exact ⟨Or.inr (Or.inl ⟨t + 1, rfl, rfl, by go_num, by omega, by omega, trivial, B0.put7.alloc _, (B1.far7 n1_0).alloc _⟩), (below7 hbw G0).alloc (by have := hbw.size; simp; omega) _⟩
          case measure => simp [intOf]; omega
        · have hlt : (t : Int) < a := by omega
          clear he
          obtain ⟨c0, f0, z0⟩ := B0.all
          obtain ⟨c1, f1, z1⟩ := B1.all
          go_wp2_with fail
          refine (ack_no 1 3 0 7 (100 + a) a b 8 (by omega) _).mono ?_
          rintro e11 w11 ⟨rfl, hb11⟩
          clear c0 f0 z0
          clear c1 f1 z1
          replace B0 := B0.keep hb11
          replace B1 := B1.keep hb11
          replace hbw := hbw.trans (hb11.mono (by have := hbw.size; omega))
          clear hb11
          obtain ⟨c0, f0, z0⟩ := B0.all
          obtain ⟨c1, f1, z1⟩ := B1.all
          go_wp2_with fail
          refine (tick_no 1 3 0 7 (100 + a) a b (100 + (t : Int)) (by omega) _).mono ?_
          rintro e12 w12 ⟨rfl, hb12⟩
          clear c0 f0 z0
          clear c1 f1 z1
          replace B0 := (B0.put7.alloc _).keep hb12
          replace B1 := ((B1.far7 n1_0).alloc _).keep hb12
          replace hbw := ((below7 hbw G0).alloc (by have := hbw.size; simp; omega) _).trans (hb12.mono (by have := hbw.size; simp; omega))
          clear hb12
          obtain ⟨c0, f0, z0⟩ := B0.all
          obtain ⟨c1, f1, z1⟩ := B1.all
          go_wp2
          go_roundw
          case rel => exact ⟨Or.inl ⟨t + 1, rfl, rfl, by go_num, by omega, trivial, B0.put7.alloc _, (B1.far7 n1_0).alloc _⟩, (below7 hbw G0).alloc (by have := hbw.size; simp; omega) _⟩
          case measure => simp [intOf]; omega
      · have hat' := ne_b hat
        by_cases he : (t : Int) = a
        · have hne := eq_n he
          have he1 : (t : Int) ≤ a := by omega
          have he2 : a ≤ (t : Int) := by omega
          clear he
          obtain ⟨c0, f0, z0⟩ := B0.all
          obtain ⟨c1, f1, z1⟩ := B1.all
          go_wp2_with fail
          refine (tick_ask 3 0 7 (100 + a) a b (100 + (t : Int)) (by omega) (by omega) (by omega) (by omega) (by omega) _).mono ?_
          rintro e11 w11 ⟨rfl, hb11⟩
          clear c0 f0 z0
          clear c1 f1 z1
          replace B0 := B0.keep hb11
          replace B1 := B1.keep hb11
          replace hbw := hbw.trans (hb11.mono (by have := hbw.size; omega))
          clear hb11
          obtain ⟨c0, f0, z0⟩ := B0.all
          obtain ⟨c1, f1, z1⟩ := B1.all
          go_wp2
          go_roundw
          case rel => exact ⟨Or.inr (Or.inl ⟨t + 1, rfl, rfl, by go_num, by omega, by omega, trivial, B0.put7.alloc _, (B1.far7 n1_0).alloc _⟩), (below7 hbw G0).alloc (by have := hbw.size; simp; omega) _⟩
          case measure => simp [intOf]; omega
        · have hlt : (t : Int) < a := by omega
          clear he
          obtain ⟨c0, f0, z0⟩ := B0.all
          obtain ⟨c1, f1, z1⟩ := B1.all
          go_wp2_with fail
          refine (tick_no 1 3 0 7 (100 + a) a b (100 + (t : Int)) (by omega) _).mono ?_
          rintro e11 w11 ⟨rfl, hb11⟩
          clear c0 f0 z0
          clear c1 f1 z1
          replace B0 := B0.keep hb11
          replace B1 := B1.keep hb11
          replace hbw := hbw.trans (hb11.mono (by have := hbw.size; omega))
          clear hb11
          obtain ⟨c0, f0, z0⟩ := B0.all
          obtain ⟨c1, f1, z1⟩ := B1.all
          go_wp2
          go_roundw
          case rel => exact ⟨Or.inl ⟨t + 1, rfl, rfl, by go_num, by omega, trivial, B0.put7.alloc _, (B1.far7 n1_0).alloc _⟩, (below7 hbw G0).alloc (by have := hbw.size; simp; omega) _⟩
          case measure => simp [intOf]; omega
    · have hlt120 : t < 120 := by omega
      by_cases hat : (t : Int) = d
      · have hat1 : (t : Int) ≤ d := by omega
        have hat2 : d ≤ (t : Int) := by omega
        replace hat := beq_iff_eq.2 hat
        by_cases he : (t : Int) = a + b
        · have hne := eq_n he
          have he1 : (t : Int) ≤ a + b := by omega
          have he2 : a + b ≤ (t : Int) := by omega
          clear he
          obtain ⟨c0, f0, z0⟩ := B0.all
          obtain ⟨c1, f1, z1⟩ := B1.all
          go_wp2_with fail
          refine (ack_no 2 3 0 7 (100 + a + b) a b 8 (by omega) _).mono ?_
          rintro e11 w11 ⟨rfl, hb11⟩
          clear c0 f0 z0
          clear c1 f1 z1
          replace B0 := B0.keep hb11
          replace B1 := B1.keep hb11
          replace hbw := hbw.trans (hb11.mono (by have := hbw.size; omega))
          clear hb11
          obtain ⟨c0, f0, z0⟩ := B0.all
          obtain ⟨c1, f1, z1⟩ := B1.all
          go_wp2_with fail
          refine (tick_fail 3 0 7 (100 + a + b) a b (100 + (t : Int)) (by omega) _).mono ?_
          rintro e12 w12 ⟨rfl, hb12⟩
          clear c0 f0 z0
          clear c1 f1 z1
          replace B0 := (B0.put7.alloc _).keep hb12
          replace B1 := ((B1.far7 n1_0).alloc _).keep hb12
          replace hbw := ((below7 hbw G0).alloc (by have := hbw.size; simp; omega) _).trans (hb12.mono (by have := hbw.size; simp; omega))
          clear hb12
          obtain ⟨c0, f0, z0⟩ := B0.all
          obtain ⟨c1, f1, z1⟩ := B1.all
          go_wp2
          go_roundw
          case rel => exact ⟨Or.inr (Or.inr ⟨t + 1, 1, 1, rfl, rfl, by go_num, by omega, by omega, by omega, B0.put7.alloc _, (B1.far7 n1_0).alloc _⟩), (below7 hbw G0).alloc (by have := hbw.size; simp; omega) _⟩
          case measure => simp [intOf]; omega
        · have hlt : (t : Int) < a + b := by omega
          clear he
          obtain ⟨c0, f0, z0⟩ := B0.all
          obtain ⟨c1, f1, z1⟩ := B1.all
          go_wp2_with fail
          refine (ack_no 2 3 0 7 (100 + a + b) a b 8 (by omega) _).mono ?_
          rintro e11 w11 ⟨rfl, hb11⟩
          clear c0 f0 z0
          clear c1 f1 z1
          replace B0 := B0.keep hb11
          replace B1 := B1.keep hb11
          replace hbw := hbw.trans (hb11.mono (by have := hbw.size; omega))
          clear hb11
          obtain ⟨c0, f0, z0⟩ := B0.all
          obtain ⟨c1, f1, z1⟩ := B1.all
          go_wp2_with fail
          refine (tick_no 2 3 0 7 (100 + a + b) a b (100 + (t : Int)) (by omega) _).mono ?_
          rintro e12 w12 ⟨rfl, hb12⟩
          clear c0 f0 z0
          clear c1 f1 z1
          replace B0 := (B0.put7.alloc _).keep hb12
          replace B1 := ((B1.far7 n1_0).alloc _).keep hb12
          replace hbw := ((below7 hbw G0).alloc (by have := hbw.size; simp; omega) _).trans (hb12.mono (by have := hbw.size; simp; omega))
          clear hb12
          obtain ⟨c0, f0, z0⟩ := B0.all
          obtain ⟨c1, f1, z1⟩ := B1.all
          go_wp2
          go_roundw
          case rel => exact ⟨Or.inr (Or.inl ⟨t + 1, rfl, rfl, by go_num, by omega, by omega, trivial, B0.put7.alloc _, (B1.far7 n1_0).alloc _⟩), (below7 hbw G0).alloc (by have := hbw.size; simp; omega) _⟩
          case measure => simp [intOf]; omega
      · have hat' := ne_b hat
        by_cases he : (t : Int) = a + b
        · have hne := eq_n he
          have he1 : (t : Int) ≤ a + b := by omega
          have he2 : a + b ≤ (t : Int) := by omega
          clear he
          obtain ⟨c0, f0, z0⟩ := B0.all
          obtain ⟨c1, f1, z1⟩ := B1.all
          go_wp2_with fail
          refine (tick_fail 3 0 7 (100 + a + b) a b (100 + (t : Int)) (by omega) _).mono ?_
          rintro e11 w11 ⟨rfl, hb11⟩
          clear c0 f0 z0
          clear c1 f1 z1
          replace B0 := B0.keep hb11
          replace B1 := B1.keep hb11
          replace hbw := hbw.trans (hb11.mono (by have := hbw.size; omega))
          clear hb11
          obtain ⟨c0, f0, z0⟩ := B0.all
          obtain ⟨c1, f1, z1⟩ := B1.all
          go_wp2
          go_roundw
          case rel => exact ⟨Or.inr (Or.inr ⟨t + 1, 1, 1, rfl, rfl, by go_num, by omega, by omega, by omega, B0.put7.alloc _, (B1.far7 n1_0).alloc _⟩), (below7 hbw G0).alloc (by have := hbw.size; simp; omega) _⟩
          case measure => simp [intOf]; omega
        · have hlt : (t : Int) < a + b := by omega
          clear he
          obtain ⟨c0, f0, z0⟩ := B0.all
          obtain ⟨c1, f1, z1⟩ := B1.all
          go_wp2_with fail
          refine (tick_no 2 3 0 7 (100 + a + b) a b (100 + (t : Int)) (by omega) _).mono ?_
          rintro e11 w11 ⟨rfl, hb11⟩
          clear c0 f0 z0
          clear c1 f1 z1
          replace B0 := B0.keep hb11
          replace B1 := B1.keep hb11
          replace hbw := hbw.trans (hb11.mono (by have := hbw.size; omega))
          clear hb11
          obtain ⟨c0, f0, z0⟩ := B0.all
          obtain ⟨c1, f1, z1⟩ := B1.all
          go_wp2
          go_roundw
          case rel => exact ⟨Or.inr (Or.inl ⟨t + 1, rfl, rfl, by go_num, by omega, by omega, trivial, B0.put7.alloc _, (B1.far7 n1_0).alloc _⟩), (below7 hbw G0).alloc (by have := hbw.size; simp; omega) _⟩
          case measure => simp [intOf]; omega
    · by_cases hlt120 : t < 120
      · by_cases hat : (t : Int) = d
        · have hat1 : (t : Int) ≤ d := by omega
          have hat2 : d ≤ (t : Int) := by omega
          replace hat := beq_iff_eq.2 hat
          obtain ⟨c0, f0, z0⟩ := B0.all
          obtain ⟨c1, f1, z1⟩ := B1.all
          go_wp2_with fail
          refine (ack_no 0 0 0 0 0 a b 8 (by omega) _).mono ?_
          rintro e11 w11 ⟨rfl, hb11⟩
          clear c0 f0 z0
          clear c1 f1 z1
          replace B0 := B0.keep hb11
          replace B1 := B1.keep hb11
          replace hbw := hbw.trans (hb11.mono (by have := hbw.size; omega))
          clear hb11
          obtain ⟨c0, f0, z0⟩ := B0.all
          obtain ⟨c1, f1, z1⟩ := B1.all
          go_wp2_with fail
          refine (tick_no 0 0 0 0 0 a b (100 + (t : Int)) (by omega) _).mono ?_
          rintro e12 w12 ⟨rfl, hb12⟩
          clear c0 f0 z0
          clear c1 f1 z1
          replace B0 := (B0.put7.alloc _).keep hb12
          replace B1 := ((B1.far7 n1_0).alloc _).keep hb12
          replace hbw := ((below7 hbw G0).alloc (by have := hbw.size; simp; omega) _).trans (hb12.mono (by have := hbw.size; simp; omega))
          clear hb12
          obtain ⟨c0, f0, z0⟩ := B0.all
          obtain ⟨c1, f1, z1⟩ := B1.all
          go_wp2
          go_roundw
          case rel => exact ⟨Or.inr (Or.inr ⟨t + 1, 1, 1, rfl, rfl, by go_num, by omega, by omega, by omega, B0.put7.alloc _, (B1.far7 n1_0).alloc _⟩), (below7 hbw G0).alloc (by have := hbw.size; simp; omega) _⟩
          case measure => simp [intOf]; omega
        · have hat' := ne_b hat
          obtain ⟨c0, f0, z0⟩ := B0.all
          obtain ⟨c1, f1, z1⟩ := B1.all
          go_wp2_with fail
          refine (tick_no 0 0 0 0 0 a b (100 + (t : Int)) (by omega) _).mono ?_
          rintro e11 w11 ⟨rfl, hb11⟩
          clear c0 f0 z0
          clear c1 f1 z1
          replace B0 := B0.keep hb11
          replace B1 := B1.keep hb11
          replace hbw := hbw.trans (hb11.mono (by have := hbw.size; omega))
          clear hb11
          obtain ⟨c0, f0, z0⟩ := B0.all
          obtain ⟨c1, f1, z1⟩ := B1.all
          go_wp2
          go_roundw
          case rel => exact ⟨Or.inr (Or.inr ⟨t + 1, 1, 1, rfl, rfl, by go_num, by omega, by omega, by omega, B0.put7.alloc _, (B1.far7 n1_0).alloc _⟩), (below7 hbw G0).alloc (by have := hbw.size; simp; omega) _⟩
          case measure => simp [intOf]; omega
      · obtain rfl : t = 120 := by omega
        obtain ⟨c0, f0, z0⟩ := B0.all
        obtain ⟨c1, f1, z1⟩ := B1.all
        go_wp2
        all_goals (go_ret; exact ⟨rfl, hbw⟩)

theorem pf_all (x y z : Int) (o : Bool) (h1 : 0 ≤ x) (h1' : x ≤ 255) (h2 : 0 ≤ y) (h2' : y ≤ 255) (h3 : 0 ≤ z) (h3' : z ≤ 255) (w : World) :
    Calls Try.prog 3 #[.int .u8 x, .int .u8 y, .int .u8 z, .bool o] w fun e w' => e = .returned (.bool true) ∧ Below w.heap.size w w' := by
  cases o
  · exact pf_false x y z _ _ _ h1 h1' h2 h2' h3 h3' rfl rfl rfl (by omega) (by omega) (by omega) (by omega) (by omega) (by omega) w
  · exact pf_true x y z _ _ _ h1 h1' h2 h2' h3 h3' rfl rfl rfl (by omega) (by omega) (by omega) (by omega) (by omega) (by omega) w
end Go.Proofs.Ytkognfcoafmcmaa
