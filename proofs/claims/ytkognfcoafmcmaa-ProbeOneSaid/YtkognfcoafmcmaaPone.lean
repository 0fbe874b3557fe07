/- What ProbeOne does: at all arguments it answers true, and changes nothing that was there. -/
import Derived.Test.YtkognfcoafmcmaaKb
import Derived.Deep.LoopGhost
namespace Go.Proofs.Ytkognfcoafmcmaa
open Go.RowKit

def cn (k : Nat) : Int := if k < 32 then k else 32
theorem nack_cn (b d u f g : Int) (k : Nat) (w : World) :
    Calls Try.prog 12 #[pv 2 b (cn k) d u f g, .int .u32 d] w fun e w' => e = .returned (.tuple #[pv 2 b (cn (k + 1)) d u f g, .bool true]) ∧ Below w.heap.size w w' := by
  have h : (if cn k < 31 then cn k + 1 else 32) = cn (k + 1) := by unfold cn; split <;> split <;> (try split) <;> omega
  have := nack_yes b (cn k) d u f g (by unfold cn; split <;> omega) w
  rw [h] at this
  exact this

set_option maxRecDepth 100000 in
set_option maxHeartbeats 4000000 in
theorem po_any (a1 a2 a3 x y : Int) (n : Nat) (h1 : 0 ≤ a1) (h1' : a1 ≤ 255) (h2 : 0 ≤ a2) (h2' : a2 ≤ 255) (h3 : 0 ≤ a3) (h3' : a3 ≤ 255)
    (hx : 1 + a2 % 32 = x) (hy : 1 + a3 % 32 = y) (hn : a1 % 41 = n) (x1 : 1 ≤ x) (x2 : x ≤ 32) (y1 : 1 ≤ y) (y2 : y ≤ 32) (n2 : n ≤ 40) (w : World) :
    Calls Try.prog 4 #[.int .u8 a1, .int .u8 a2, .int .u8 a3] w fun e w' => e = .returned (.bool true) ∧ Below w.heap.size w w' := by
  have hbw := Below.refl w.heap.size w
  go_enter Try.func4, Try.ntmps4
  go_wp2_with fail
  refine (examples_any _).mono ?_
  rintro e1 w1 ⟨rfl, hb1⟩
  replace hbw := hbw.trans (hb1.mono (by have := hbw.size; omega))
  clear hb1
  go_wp2_with fail
  refine (new_yes 5 5 (by omega) (by omega) (by omega) (by omega) _).mono ?_
  rintro e2 w2 ⟨rfl, hb2⟩
  replace hbw := hbw.trans (hb2.mono (by have := hbw.size; omega))
  clear hb2
  have G0 := hbw.size
  go_wp2_with fail
  refine (start_ok 0 0 0 0 5 5 x 1 0 (by omega) (by omega) (by omega) (by omega) (by omega) (by omega) _).mono ?_
  rintro e3 w3 ⟨rfl, hb3⟩
  have B0 := (Blk.new w2 _ _).keep hb3
  replace hbw := (hbw.alloc (by have := hbw.size; omega) _).trans (hb3.mono (by have := hbw.size; simp; omega))
  clear hb3
  obtain ⟨c0, f0, z0⟩ := B0.all
  go_wp2_with fail
  refine (nack_no 1 x 0 1 5 5 5 1 (by omega) _).mono ?_
  rintro e4 w4 ⟨rfl, hb4⟩
  clear c0 f0 z0
  replace B0 := B0.put7.keep hb4
  replace hbw := (below7 hbw G0).trans (hb4.mono (by have := hbw.size; simp; omega))
  clear hb4
  obtain ⟨c0, f0, z0⟩ := B0.all
  go_wp2_with fail
  refine (start_full 1 x 0 1 5 5 5 y 2 0 (by omega) (by omega) (by omega) (by omega) _).mono ?_
  rintro e5 w5 ⟨rfl, hb5⟩
  clear c0 f0 z0
  replace B0 := (B0.alloc _).keep hb5
  replace hbw := (hbw.alloc (by have := hbw.size; omega) _).trans (hb5.mono (by have := hbw.size; simp; omega))
  clear hb5
  obtain ⟨c0, f0, z0⟩ := B0.all
  have G1 := hbw.size
  go_wp2_with fail
  refine (tick_ask x 0 1 5 5 5 5 (by omega) (by omega) (by omega) (by omega) (by omega) _).mono ?_
  rintro e6 w6 ⟨rfl, hb6⟩
  clear c0 f0 z0
  have n0_1 := Nat.ne_of_lt B0.lt
  have n1_0 := Ne.symm n0_1
  replace B0 := (B0.alloc _).keep hb6
  have B1 := (Blk.new w5 _ _).keep hb6
  replace hbw := (hbw.alloc (by have := hbw.size; omega) _).trans (hb6.mono (by have := hbw.size; simp; omega))
  clear hb6
  obtain ⟨c0, f0, z0⟩ := B0.all
  obtain ⟨c1, f1, z1⟩ := B1.all
  go_wp2_with fail
  go_loopw [17] (fun v17 wr => ∃ k : Nat, k ≤ n ∧ v17 = .int .i64 k ∧ Blk wr w2.heap.size 26 (pc 2 x (cn k) 1 10 5 5) ∧ Blk wr w5.heap.size 26 (pc 1 x 0 1 5 5 5) ∧ Below w.heap.size w wr) (fun v17 _ => n - (intOf v17).toNat)
  case atStart => exact ⟨0, Nat.zero_le _, rfl, B0.put7, B1.far7 n1_0, below7 hbw G0⟩
  case round =>
    clear B0 B1 c0 f0 z0 c1 f1 z1 hbw
    obtain ⟨k, hk, rfl, B0, B1, hbw⟩ := hrel
    obtain ⟨c0, f0, z0⟩ := B0.all
    obtain ⟨c1, f1, z1⟩ := B1.all
    by_cases hlt : k < n
    · go_wp2_with fail
      refine (nack_cn x 1 10 5 5 k _).mono ?_
      rintro e11 w11 ⟨rfl, hb11⟩
      clear c0 f0 z0
      clear c1 f1 z1
      replace B0 := B0.keep hb11
      replace B1 := B1.keep hb11
      replace hbw := hbw.trans (hb11.mono (by have := hbw.size; omega))
      clear hb11
      obtain ⟨c0, f0, z0⟩ := B0.all
      obtain ⟨c1, f1, z1⟩ := B1.all
      go_wp2
      go_roundw
      case rel => exact ⟨k + 1, by omega, by go_num, B0.put7.alloc _, (B1.far7 n1_0).alloc _, (below7 hbw G0).alloc (by have := hbw.size; simp; omega) _⟩
      case measure => simp [intOf]; omega
    · obtain rfl : k = n := by omega
      have hcn : cn k = if k < 32 then (k : Int) else 32 := rfl
      have Hcn := Lib.hid hcn
      clear hcn
      go_wp2_with fail
      refine (nack_no 2 x (cn k) 1 10 5 5 2 (by omega) _).mono ?_
      rintro e11 w11 ⟨rfl, hb11⟩
      clear c0 f0 z0
      clear c1 f1 z1
      replace B0 := B0.keep hb11
      replace B1 := B1.keep hb11
      replace hbw := hbw.trans (hb11.mono (by have := hbw.size; omega))
      clear hb11
      obtain ⟨c0, f0, z0⟩ := B0.all
      obtain ⟨c1, f1, z1⟩ := B1.all
      have hcn := Hcn.out
      clear Hcn
      by_cases h32 : k < 32
      · rw [if_pos h32] at hcn
        go_wp2
        all_goals (go_ret; exact ⟨rfl, hbw.alloc (by have := hbw.size; omega) _⟩)
      · rw [if_neg h32] at hcn
        go_wp2
        all_goals (go_ret; exact ⟨rfl, hbw.alloc (by have := hbw.size; omega) _⟩)
theorem po_all (x y z : Int) (h1 : 0 ≤ x) (h1' : x ≤ 255) (h2 : 0 ≤ y) (h2' : y ≤ 255) (h3 : 0 ≤ z) (h3' : z ≤ 255) (w : World) :
    Calls Try.prog 4 #[.int .u8 x, .int .u8 y, .int .u8 z] w fun e w' => e = .returned (.bool true) ∧ Below w.heap.size w w' :=
  po_any x y z _ _ (x % 41).toNat h1 h1' h2 h2' h3 h3' rfl rfl (by omega) (by omega) (by omega) (by omega) (by omega) (by omega) w
end Go.Proofs.Ytkognfcoafmcmaa
