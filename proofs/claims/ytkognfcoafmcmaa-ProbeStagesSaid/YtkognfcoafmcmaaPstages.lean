/- What ProbeStages does: at all arguments it answers true, and changes nothing that was there. -/
import Derived.Test.YtkognfcoafmcmaaKb
namespace Go.Proofs.Ytkognfcoafmcmaa
open Go.RowKit

set_option maxRecDepth 100000 in
set_option maxHeartbeats 4000000 in
theorem ps_any (x y t z a b r s : Int) (hx : 0 ≤ x) (hx' : x ≤ 65535) (hy : 0 ≤ y) (hy' : y ≤ 65535) (ht : 0 ≤ t) (ht' : t ≤ 4294967295) (hz : 0 ≤ z) (hz' : z ≤ 65535)
    (ha : 1 + x % 1000 = a) (hb : 1 + y % 1000 = b) (hr : z % a = r) (hs : z % b = s)
    (a1 : 1 ≤ a) (_a2 : a ≤ 1000) (b1 : 1 ≤ b) (_b2 : b ≤ 1000) (r1 : 0 ≤ r) (r2 : r < a) (s1 : 0 ≤ s) (s2 : s < b) (w : World) :
    Calls Try.prog 6 #[.int .u16 x, .int .u16 y, .int .u32 t, .int .u16 z] w fun e w' => e = .returned (.bool true) ∧ Below w.heap.size w w' := by
  have hbw := Below.refl w.heap.size w
  go_enter Try.func6, Try.ntmps6
  go_wp2_with fail
  refine (examples_any _).mono ?_
  rintro e1 w1 ⟨rfl, hb1⟩
  replace hbw := hbw.trans (hb1.mono (by have := hbw.size; omega))
  clear hb1
  go_wp2_with fail
  refine (new_yes a b (by omega) (by omega) (by omega) (by omega) _).mono ?_
  rintro e2 w2 ⟨rfl, hb2⟩
  replace hbw := hbw.trans (hb2.mono (by have := hbw.size; omega))
  clear hb2
  go_wp2_with fail
  refine (start_ok 0 0 0 0 a b 1 2 t (by omega) (by omega) (by omega) (by omega) (by omega) (by omega) _).mono ?_
  rintro e3 w3 ⟨rfl, hb3⟩
  have B0 := (Blk.new w2 _ _).keep hb3
  replace hbw := (hbw.alloc (by have := hbw.size; omega) _).trans (hb3.mono (by have := hbw.size; simp; omega))
  clear hb3
  obtain ⟨c0, f0, z0⟩ := B0.all
  go_wp2_with fail
  refine (tick_no 1 1 0 2 (t + a) a b (t + a - 1 - r) (by omega) _).mono ?_
  rintro e4 w4 ⟨rfl, hb4⟩
  replace B0 := (B0.alloc _).keep hb4
  clear c0 f0 z0
  have B1 := (Blk.new w3 _ _).keep hb4
  replace hbw := (hbw.alloc (by have := hbw.size; omega) _).trans (hb4.mono (by have := hbw.size; simp; omega))
  clear hb4
  obtain ⟨c0, f0, z0⟩ := B0.all
  obtain ⟨c1, f1, z1⟩ := B1.all
  go_wp2_with fail
  refine (tick_ask 1 0 2 (t + a) a b (t + a) (by omega) (by omega) (by omega) (by omega) (by omega) _).mono ?_
  rintro e5 w5 ⟨rfl, hb5⟩
  replace B0 := (B0.alloc _).keep hb5
  clear c0 f0 z0
  replace B1 := (B1.alloc _).keep hb5
  clear c1 f1 z1
  have B2 := (Blk.new w4 _ _).keep hb5
  replace hbw := (hbw.alloc (by have := hbw.size; omega) _).trans (hb5.mono (by have := hbw.size; simp; omega))
  clear hb5
  obtain ⟨c0, f0, z0⟩ := B0.all
  obtain ⟨c1, f1, z1⟩ := B1.all
  obtain ⟨c2, f2, z2⟩ := B2.all
  go_wp2_with fail
  refine (tick_no 2 1 0 2 (t + a + b) a b (t + a + b - 1 - s) (by omega) _).mono ?_
  rintro e6 w6 ⟨rfl, hb6⟩
  replace B0 := (B0.alloc _).keep hb6
  clear c0 f0 z0
  replace B1 := (B1.alloc _).keep hb6
  clear c1 f1 z1
  replace B2 := (B2.alloc _).keep hb6
  clear c2 f2 z2
  have B3 := (Blk.new w5 _ _).keep hb6
  replace hbw := (hbw.alloc (by have := hbw.size; omega) _).trans (hb6.mono (by have := hbw.size; simp; omega))
  clear hb6
  obtain ⟨c0, f0, z0⟩ := B0.all
  obtain ⟨c1, f1, z1⟩ := B1.all
  obtain ⟨c2, f2, z2⟩ := B2.all
  obtain ⟨c3, f3, z3⟩ := B3.all
  go_wp2_with fail
  refine (nack_yes 1 0 2 (t + a + b) a b (by omega) _).mono ?_
  rintro e7 w7 ⟨rfl, hb7⟩
  replace B0 := (B0.alloc _).keep hb7
  clear c0 f0 z0
  replace B1 := (B1.alloc _).keep hb7
  clear c1 f1 z1
  replace B2 := (B2.alloc _).keep hb7
  clear c2 f2 z2
  replace B3 := (B3.alloc _).keep hb7
  clear c3 f3 z3
  have B4 := (Blk.new w6 _ _).keep hb7
  replace hbw := (hbw.alloc (by have := hbw.size; omega) _).trans (hb7.mono (by have := hbw.size; simp; omega))
  clear hb7
  obtain ⟨c0, f0, z0⟩ := B0.all
  obtain ⟨c1, f1, z1⟩ := B1.all
  obtain ⟨c2, f2, z2⟩ := B2.all
  obtain ⟨c3, f3, z3⟩ := B3.all
  obtain ⟨c4, f4, z4⟩ := B4.all
  go_wp2_with fail
  refine (tick_fail 1 1 2 (t + a + b) a b (t + a + b) (by omega) _).mono ?_
  rintro e8 w8 ⟨rfl, hb8⟩
  replace B0 := (B0.alloc _).keep hb8
  clear c0 f0 z0
  replace B1 := (B1.alloc _).keep hb8
  clear c1 f1 z1
  replace B2 := (B2.alloc _).keep hb8
  clear c2 f2 z2
  replace B3 := (B3.alloc _).keep hb8
  clear c3 f3 z3
  replace B4 := (B4.alloc _).keep hb8
  clear c4 f4 z4
  have B5 := (Blk.new w7 _ _).keep hb8
  replace hbw := (hbw.alloc (by have := hbw.size; omega) _).trans (hb8.mono (by have := hbw.size; simp; omega))
  clear hb8
  obtain ⟨c0, f0, z0⟩ := B0.all
  obtain ⟨c1, f1, z1⟩ := B1.all
  obtain ⟨c2, f2, z2⟩ := B2.all
  obtain ⟨c3, f3, z3⟩ := B3.all
  obtain ⟨c4, f4, z4⟩ := B4.all
  obtain ⟨c5, f5, z5⟩ := B5.all
  clear c5 f5 z5 B5
  go_wp2_with fail
  refine (start_ok 0 0 0 0 a b 9 3 t (by omega) (by omega) (by omega) (by omega) (by omega) (by omega) _).mono ?_
  rintro e9 w9 ⟨rfl, hb9⟩
  replace B0 := (B0.alloc _).keep hb9
  clear c0 f0 z0
  replace B1 := (B1.alloc _).keep hb9
  clear c1 f1 z1
  replace B2 := (B2.alloc _).keep hb9
  clear c2 f2 z2
  replace B3 := (B3.alloc _).keep hb9
  clear c3 f3 z3
  replace B4 := (B4.alloc _).keep hb9
  clear c4 f4 z4
  have B6 := (Blk.new w8 _ _).keep hb9
  replace hbw := (hbw.alloc (by have := hbw.size; omega) _).trans (hb9.mono (by have := hbw.size; simp; omega))
  clear hb9
  obtain ⟨c0, f0, z0⟩ := B0.all
  obtain ⟨c1, f1, z1⟩ := B1.all
  obtain ⟨c2, f2, z2⟩ := B2.all
  obtain ⟨c3, f3, z3⟩ := B3.all
  obtain ⟨c4, f4, z4⟩ := B4.all
  obtain ⟨c6, f6, z6⟩ := B6.all
  go_wp2
  go_ret
  exact ⟨rfl, hbw.alloc (by have := hbw.size; omega) _⟩

theorem ps_all (x y t z : Int) (hx : 0 ≤ x) (hx' : x ≤ 65535) (hy : 0 ≤ y) (hy' : y ≤ 65535) (ht : 0 ≤ t) (ht' : t ≤ 4294967295) (hz : 0 ≤ z) (hz' : z ≤ 65535) (w : World) :
    Calls Try.prog 6 #[.int .u16 x, .int .u16 y, .int .u32 t, .int .u16 z] w fun e w' => e = .returned (.bool true) ∧ Below w.heap.size w w' := by
  have a1 : 1 ≤ 1 + x % 1000 := by omega
  have b1 : 1 ≤ 1 + y % 1000 := by omega
  exact ps_any x y t z _ _ _ _ hx hx' hy hy' ht ht' hz hz' rfl rfl rfl rfl a1 (by omega) b1 (by omega) (Int.emod_nonneg _ (by omega)) (Int.emod_lt_of_pos _ (by omega)) (Int.emod_nonneg _ (by omega)) (Int.emod_lt_of_pos _ (by omega)) w
end Go.Proofs.Ytkognfcoafmcmaa
