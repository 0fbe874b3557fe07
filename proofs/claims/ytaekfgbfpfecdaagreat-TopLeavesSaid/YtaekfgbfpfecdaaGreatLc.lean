/- TopLeaves on the machine: all cases together; no conditions. -/
import Derived.Test.YtaekfgbfpfecdaaGreatLq0
import Derived.Test.YtaekfgbfpfecdaaGreatLq1
import Derived.Test.YtaekfgbfpfecdaaGreatLq2
import Derived.Test.YtaekfgbfpfecdaaGreatLq3
import Derived.Test.YtaekfgbfpfecdaaGreatLq4
import Derived.Test.YtaekfgbfpfecdaaGreatLq5
import Derived.Test.YtaekfgbfpfecdaaGreatLq6
import Derived.Test.YtaekfgbfpfecdaaGreatLq7
namespace Go.Proofs.YtaekfgbfpfecdaaGreat.VM
open Go R
set_option linter.unusedVariables false
set_option maxRecDepth 1000000
structure Holds (p h : Nat) : Prop where
  out : go4 p h = true
theorem hc {p h : Nat} (e : Nat.add (w p h) 1 = 2) : Holds p h := ⟨of_bn e⟩
def AllLt (R : Nat → Prop) : Nat → Prop
  | 0 => True
  | n + 1 => AllLt R n ∧ R n
theorem AllLt.get {R : Nat → Prop} : ∀ {n : Nat}, AllLt R n → ∀ i, i < n → R i
  | 0, _, i, h => absurd h (Nat.not_lt_zero _)
  | n + 1, h, i, hi => by
    rcases Nat.lt_or_ge i n with h1 | h1
    · exact h.1.get i h1
    · have : i = n := by omega
      subst this; exact h.2
theorem cp0 : AllLt (fun h => Holds 0 h) 20 := (And.intro (And.intro (And.intro (And.intro (And.intro (And.intro (And.intro (And.intro (And.intro (And.intro (And.intro (And.intro (And.intro (And.intro (And.intro (And.intro (And.intro (And.intro (And.intro (And.intro trivial (@hc 0 0 c0x0)) (@hc 0 1 c0x1)) (@hc 0 2 c0x2)) (@hc 0 3 c0x3)) (@hc 0 4 c0x4)) (@hc 0 5 c0x5)) (@hc 0 6 c0x6)) (@hc 0 7 c0x7)) (@hc 0 8 c0x8)) (@hc 0 9 c0x9)) (@hc 0 10 c0x10)) (@hc 0 11 c0x11)) (@hc 0 12 c0x12)) (@hc 0 13 c0x13)) (@hc 0 14 c0x14)) (@hc 0 15 c0x15)) (@hc 0 16 c0x16)) (@hc 0 17 c0x17)) (@hc 0 18 c0x18)) (@hc 0 19 c0x19))
theorem cp1 : AllLt (fun h => Holds 1 h) 20 := (And.intro (And.intro (And.intro (And.intro (And.intro (And.intro (And.intro (And.intro (And.intro (And.intro (And.intro (And.intro (And.intro (And.intro (And.intro (And.intro (And.intro (And.intro (And.intro (And.intro trivial (@hc 1 0 c1x0)) (@hc 1 1 c1x1)) (@hc 1 2 c1x2)) (@hc 1 3 c1x3)) (@hc 1 4 c1x4)) (@hc 1 5 c1x5)) (@hc 1 6 c1x6)) (@hc 1 7 c1x7)) (@hc 1 8 c1x8)) (@hc 1 9 c1x9)) (@hc 1 10 c1x10)) (@hc 1 11 c1x11)) (@hc 1 12 c1x12)) (@hc 1 13 c1x13)) (@hc 1 14 c1x14)) (@hc 1 15 c1x15)) (@hc 1 16 c1x16)) (@hc 1 17 c1x17)) (@hc 1 18 c1x18)) (@hc 1 19 c1x19))
theorem cp2 : AllLt (fun h => Holds 2 h) 20 := (And.intro (And.intro (And.intro (And.intro (And.intro (And.intro (And.intro (And.intro (And.intro (And.intro (And.intro (And.intro (And.intro (And.intro (And.intro (And.intro (And.intro (And.intro (And.intro (And.intro trivial (@hc 2 0 c2x0)) (@hc 2 1 c2x1)) (@hc 2 2 c2x2)) (@hc 2 3 c2x3)) (@hc 2 4 c2x4)) (@hc 2 5 c2x5)) (@hc 2 6 c2x6)) (@hc 2 7 c2x7)) (@hc 2 8 c2x8)) (@hc 2 9 c2x9)) (@hc 2 10 c2x10)) (@hc 2 11 c2x11)) (@hc 2 12 c2x12)) (@hc 2 13 c2x13)) (@hc 2 14 c2x14)) (@hc 2 15 c2x15)) (@hc 2 16 c2x16)) (@hc 2 17 c2x17)) (@hc 2 18 c2x18)) (@hc 2 19 c2x19))
theorem cp3 : AllLt (fun h => Holds 3 h) 20 := (And.intro (And.intro (And.intro (And.intro (And.intro (And.intro (And.intro (And.intro (And.intro (And.intro (And.intro (And.intro (And.intro (And.intro (And.intro (And.intro (And.intro (And.intro (And.intro (And.intro trivial (@hc 3 0 c3x0)) (@hc 3 1 c3x1)) (@hc 3 2 c3x2)) (@hc 3 3 c3x3)) (@hc 3 4 c3x4)) (@hc 3 5 c3x5)) (@hc 3 6 c3x6)) (@hc 3 7 c3x7)) (@hc 3 8 c3x8)) (@hc 3 9 c3x9)) (@hc 3 10 c3x10)) (@hc 3 11 c3x11)) (@hc 3 12 c3x12)) (@hc 3 13 c3x13)) (@hc 3 14 c3x14)) (@hc 3 15 c3x15)) (@hc 3 16 c3x16)) (@hc 3 17 c3x17)) (@hc 3 18 c3x18)) (@hc 3 19 c3x19))
theorem cp4 : AllLt (fun h => Holds 4 h) 20 := (And.intro (And.intro (And.intro (And.intro (And.intro (And.intro (And.intro (And.intro (And.intro (And.intro (And.intro (And.intro (And.intro (And.intro (And.intro (And.intro (And.intro (And.intro (And.intro (And.intro trivial (@hc 4 0 c4x0)) (@hc 4 1 c4x1)) (@hc 4 2 c4x2)) (@hc 4 3 c4x3)) (@hc 4 4 c4x4)) (@hc 4 5 c4x5)) (@hc 4 6 c4x6)) (@hc 4 7 c4x7)) (@hc 4 8 c4x8)) (@hc 4 9 c4x9)) (@hc 4 10 c4x10)) (@hc 4 11 c4x11)) (@hc 4 12 c4x12)) (@hc 4 13 c4x13)) (@hc 4 14 c4x14)) (@hc 4 15 c4x15)) (@hc 4 16 c4x16)) (@hc 4 17 c4x17)) (@hc 4 18 c4x18)) (@hc 4 19 c4x19))
theorem cp5 : AllLt (fun h => Holds 5 h) 20 := (And.intro (And.intro (And.intro (And.intro (And.intro (And.intro (And.intro (And.intro (And.intro (And.intro (And.intro (And.intro (And.intro (And.intro (And.intro (And.intro (And.intro (And.intro (And.intro (And.intro trivial (@hc 5 0 c5x0)) (@hc 5 1 c5x1)) (@hc 5 2 c5x2)) (@hc 5 3 c5x3)) (@hc 5 4 c5x4)) (@hc 5 5 c5x5)) (@hc 5 6 c5x6)) (@hc 5 7 c5x7)) (@hc 5 8 c5x8)) (@hc 5 9 c5x9)) (@hc 5 10 c5x10)) (@hc 5 11 c5x11)) (@hc 5 12 c5x12)) (@hc 5 13 c5x13)) (@hc 5 14 c5x14)) (@hc 5 15 c5x15)) (@hc 5 16 c5x16)) (@hc 5 17 c5x17)) (@hc 5 18 c5x18)) (@hc 5 19 c5x19))
theorem cp6 : AllLt (fun h => Holds 6 h) 20 := (And.intro (And.intro (And.intro (And.intro (And.intro (And.intro (And.intro (And.intro (And.intro (And.intro (And.intro (And.intro (And.intro (And.intro (And.intro (And.intro (And.intro (And.intro (And.intro (And.intro trivial (@hc 6 0 c6x0)) (@hc 6 1 c6x1)) (@hc 6 2 c6x2)) (@hc 6 3 c6x3)) (@hc 6 4 c6x4)) (@hc 6 5 c6x5)) (@hc 6 6 c6x6)) (@hc 6 7 c6x7)) (@hc 6 8 c6x8)) (@hc 6 9 c6x9)) (@hc 6 10 c6x10)) (@hc 6 11 c6x11)) (@hc 6 12 c6x12)) (@hc 6 13 c6x13)) (@hc 6 14 c6x14)) (@hc 6 15 c6x15)) (@hc 6 16 c6x16)) (@hc 6 17 c6x17)) (@hc 6 18 c6x18)) (@hc 6 19 c6x19))
theorem cp7 : AllLt (fun h => Holds 7 h) 20 := (And.intro (And.intro (And.intro (And.intro (And.intro (And.intro (And.intro (And.intro (And.intro (And.intro (And.intro (And.intro (And.intro (And.intro (And.intro (And.intro (And.intro (And.intro (And.intro (And.intro trivial (@hc 7 0 c7x0)) (@hc 7 1 c7x1)) (@hc 7 2 c7x2)) (@hc 7 3 c7x3)) (@hc 7 4 c7x4)) (@hc 7 5 c7x5)) (@hc 7 6 c7x6)) (@hc 7 7 c7x7)) (@hc 7 8 c7x8)) (@hc 7 9 c7x9)) (@hc 7 10 c7x10)) (@hc 7 11 c7x11)) (@hc 7 12 c7x12)) (@hc 7 13 c7x13)) (@hc 7 14 c7x14)) (@hc 7 15 c7x15)) (@hc 7 16 c7x16)) (@hc 7 17 c7x17)) (@hc 7 18 c7x18)) (@hc 7 19 c7x19))
theorem cp8 : AllLt (fun h => Holds 8 h) 20 := (And.intro (And.intro (And.intro (And.intro (And.intro (And.intro (And.intro (And.intro (And.intro (And.intro (And.intro (And.intro (And.intro (And.intro (And.intro (And.intro (And.intro (And.intro (And.intro (And.intro trivial (@hc 8 0 c8x0)) (@hc 8 1 c8x1)) (@hc 8 2 c8x2)) (@hc 8 3 c8x3)) (@hc 8 4 c8x4)) (@hc 8 5 c8x5)) (@hc 8 6 c8x6)) (@hc 8 7 c8x7)) (@hc 8 8 c8x8)) (@hc 8 9 c8x9)) (@hc 8 10 c8x10)) (@hc 8 11 c8x11)) (@hc 8 12 c8x12)) (@hc 8 13 c8x13)) (@hc 8 14 c8x14)) (@hc 8 15 c8x15)) (@hc 8 16 c8x16)) (@hc 8 17 c8x17)) (@hc 8 18 c8x18)) (@hc 8 19 c8x19))
theorem cp9 : AllLt (fun h => Holds 9 h) 20 := (And.intro (And.intro (And.intro (And.intro (And.intro (And.intro (And.intro (And.intro (And.intro (And.intro (And.intro (And.intro (And.intro (And.intro (And.intro (And.intro (And.intro (And.intro (And.intro (And.intro trivial (@hc 9 0 c9x0)) (@hc 9 1 c9x1)) (@hc 9 2 c9x2)) (@hc 9 3 c9x3)) (@hc 9 4 c9x4)) (@hc 9 5 c9x5)) (@hc 9 6 c9x6)) (@hc 9 7 c9x7)) (@hc 9 8 c9x8)) (@hc 9 9 c9x9)) (@hc 9 10 c9x10)) (@hc 9 11 c9x11)) (@hc 9 12 c9x12)) (@hc 9 13 c9x13)) (@hc 9 14 c9x14)) (@hc 9 15 c9x15)) (@hc 9 16 c9x16)) (@hc 9 17 c9x17)) (@hc 9 18 c9x18)) (@hc 9 19 c9x19))
theorem go_all (p h : Nat) (hp : p < 10) (hh : h < 20) : go4 p h = true := by
  match p, hp with
  | 0, _ => exact (cp0.get h hh).out
  | 1, _ => exact (cp1.get h hh).out
  | 2, _ => exact (cp2.get h hh).out
  | 3, _ => exact (cp3.get h hh).out
  | 4, _ => exact (cp4.get h hh).out
  | 5, _ => exact (cp5.get h hh).out
  | 6, _ => exact (cp6.get h hh).out
  | 7, _ => exact (cp7.get h hh).out
  | 8, _ => exact (cp8.get h hh).out
  | 9, _ => exact (cp9.get h hh).out
theorem sf_all (p h : Nat) : sf4 0 p h 0 1 str0 0 (fun r m t s d => Nat.beq r 1) = true := by
  rw [sfgf]
  have h := go_all (Nat.mod p 10) (Nat.mod h 20) (Nat.mod_lt _ (by decide)) (Nat.mod_lt _ (by decide))
  unfold go4 at h
  rw [force_eq] at h
  exact h
theorem leaves (a0 a1 a2 : Int) (w0 : 0 ≤ a0 ∧ a0 ≤ 18446744073709551615) (w1 : 0 ≤ a1 ∧ a1 ≤ 255) (w2 : 0 ≤ a2 ∧ a2 ≤ 255) (w : World) :
    Calls Tryz.prog 4 #[.int .u64 a0, .int .u8 a1, .int .u8 a2] w fun e w' => e = .returned (.bool true) ∧ Kept w w' := by
  obtain ⟨p, rfl⟩ := Int.eq_ofNat_of_zero_le w1.1
  obtain ⟨h, rfl⟩ := Int.eq_ofNat_of_zero_le w2.1
  have hp : p < 256 := by omega
  have hh : h < 256 := by omega
  exact says_true3 (F := sf4) ok4 Tryz.func4 (by kernel_rfl) (by kernel_rfl) (x := 0) (y := p) (z := h) ⟨by decide, a0, rfl, w0.1, by omega⟩ ⟨by omega, rfl, hp⟩ ⟨by omega, rfl, hh⟩ (sf_all p h) w
end Go.Proofs.YtaekfgbfpfecdaaGreat.VM
