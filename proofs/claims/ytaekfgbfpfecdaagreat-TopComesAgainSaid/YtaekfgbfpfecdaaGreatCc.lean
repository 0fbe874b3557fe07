/- TopComesAgain on the machine: all cases together; no conditions. -/
import Derived.Test.YtaekfgbfpfecdaaGreatCq0
import Derived.Test.YtaekfgbfpfecdaaGreatCq1
import Derived.Test.YtaekfgbfpfecdaaGreatCq2
import Derived.Test.YtaekfgbfpfecdaaGreatCq3
import Derived.Test.YtaekfgbfpfecdaaGreatCq4
import Derived.Test.YtaekfgbfpfecdaaGreatCq5
import Derived.Test.YtaekfgbfpfecdaaGreatCq6
import Derived.Test.YtaekfgbfpfecdaaGreatCq7
namespace Go.Proofs.YtaekfgbfpfecdaaGreat.VM
open Go R
set_option linter.unusedVariables false
set_option maxRecDepth 1000000
structure Holds (p h : Nat) : Prop where
  out : go5 p h = true
theorem hc {p h : Nat} (e : Nat.add (w p h) 1 = 2) : Holds p h := ⟨of_bn e⟩
def AllLt (R : Nat → Prop) : Nat → Prop
  | 0 => True
  | n + 1 => AllLt R n ∧ R n
theorem AllLt.get {R : Nat → Prop} : ∀ {n : Nat}, AllLt R n → ∀ i, i < n → R i
  | 0, _, i, h => absurd h (Nat.not_lt_zero _)
  | n + 1, h, i, hi => by
    rcases Nat.lt_or_ge i n with h1 | h1
    · exact h.1.get i h1
    · have : i = n := by omega
      subst this; exact h.2
theorem cp0 : AllLt (fun h => Holds 0 h) 60 := (And.intro (And.intro (And.intro (And.intro (And.intro (And.intro (And.intro (And.intro (And.intro (And.intro (And.intro (And.intro (And.intro (And.intro (And.intro (And.intro (And.intro (And.intro (And.intro (And.intro (And.intro (And.intro (And.intro (And.intro (And.intro (And.intro (And.intro (And.intro (And.intro (And.intro (And.intro (And.intro (And.intro (And.intro (And.intro (And.intro (And.intro (And.intro (And.intro (And.intro (And.intro (And.intro (And.intro (And.intro (And.intro (And.intro (And.intro (And.intro (And.intro (And.intro (And.intro (And.intro (And.intro (And.intro (And.intro (And.intro (And.intro (And.intro (And.intro (And.intro trivial (@hc 0 0 c0x0)) (@hc 0 1 c0x1)) (@hc 0 2 c0x2)) (@hc 0 3 c0x3)) (@hc 0 4 c0x4)) (@hc 0 5 c0x5)) (@hc 0 6 c0x6)) (@hc 0 7 c0x7)) (@hc 0 8 c0x8)) (@hc 0 9 c0x9)) (@hc 0 10 c0x10)) (@hc 0 11 c0x11)) (@hc 0 12 c0x12)) (@hc 0 13 c0x13)) (@hc 0 14 c0x14)) (@hc 0 15 c0x15)) (@hc 0 16 c0x16)) (@hc 0 17 c0x17)) (@hc 0 18 c0x18)) (@hc 0 19 c0x19)) (@hc 0 20 c0x20)) (@hc 0 21 c0x21)) (@hc 0 22 c0x22)) (@hc 0 23 c0x23)) (@hc 0 24 c0x24)) (@hc 0 25 c0x25)) (@hc 0 26 c0x26)) (@hc 0 27 c0x27)) (@hc 0 28 c0x28)) (@hc 0 29 c0x29)) (@hc 0 30 c0x30)) (@hc 0 31 c0x31)) (@hc 0 32 c0x32)) (@hc 0 33 c0x33)) (@hc 0 34 c0x34)) (@hc 0 35 c0x35)) (@hc 0 36 c0x36)) (@hc 0 37 c0x37)) (@hc 0 38 c0x38)) (@hc 0 39 c0x39)) (@hc 0 40 c0x40)) (@hc 0 41 c0x41)) (@hc 0 42 c0x42)) (@hc 0 43 c0x43)) (@hc 0 44 c0x44)) (@hc 0 45 c0x45)) (@hc 0 46 c0x46)) (@hc 0 47 c0x47)) (@hc 0 48 c0x48)) (@hc 0 49 c0x49)) (@hc 0 50 c0x50)) (@hc 0 51 c0x51)) (@hc 0 52 c0x52)) (@hc 0 53 c0x53)) (@hc 0 54 c0x54)) (@hc 0 55 c0x55)) (@hc 0 56 c0x56)) (@hc 0 57 c0x57)) (@hc 0 58 c0x58)) (@hc 0 59 c0x59))
theorem cp1 : AllLt (fun h => Holds 1 h) 60 := (And.intro (And.intro (And.intro (And.intro (And.intro (And.intro (And.intro (And.intro (And.intro (And.intro (And.intro (And.intro (And.intro (And.intro (And.intro (And.intro (And.intro (And.intro (And.intro (And.intro (And.intro (And.intro (And.intro (And.intro (And.intro (And.intro (And.intro (And.intro (And.intro (And.intro (And.intro (And.intro (And.intro (And.intro (And.intro (And.intro (And.intro (And.intro (And.intro (And.intro (And.intro (And.intro (And.intro (And.intro (And.intro (And.intro (And.intro (And.intro (And.intro (And.intro (And.intro (And.intro (And.intro (And.intro (And.intro (And.intro (And.intro (And.intro (And.intro (And.intro trivial (@hc 1 0 c1x0)) (@hc 1 1 c1x1)) (@hc 1 2 c1x2)) (@hc 1 3 c1x3)) (@hc 1 4 c1x4)) (@hc 1 5 c1x5)) (@hc 1 6 c1x6)) (@hc 1 7 c1x7)) (@hc 1 8 c1x8)) (@hc 1 9 c1x9)) (@hc 1 10 c1x10)) (@hc 1 11 c1x11)) (@hc 1 12 c1x12)) (@hc 1 13 c1x13)) (@hc 1 14 c1x14)) (@hc 1 15 c1x15)) (@hc 1 16 c1x16)) (@hc 1 17 c1x17)) (@hc 1 18 c1x18)) (@hc 1 19 c1x19)) (@hc 1 20 c1x20)) (@hc 1 21 c1x21)) (@hc 1 22 c1x22)) (@hc 1 23 c1x23)) (@hc 1 24 c1x24)) (@hc 1 25 c1x25)) (@hc 1 26 c1x26)) (@hc 1 27 c1x27)) (@hc 1 28 c1x28)) (@hc 1 29 c1x29)) (@hc 1 30 c1x30)) (@hc 1 31 c1x31)) (@hc 1 32 c1x32)) (@hc 1 33 c1x33)) (@hc 1 34 c1x34)) (@hc 1 35 c1x35)) (@hc 1 36 c1x36)) (@hc 1 37 c1x37)) (@hc 1 38 c1x38)) (@hc 1 39 c1x39)) (@hc 1 40 c1x40)) (@hc 1 41 c1x41)) (@hc 1 42 c1x42)) (@hc 1 43 c1x43)) (@hc 1 44 c1x44)) (@hc 1 45 c1x45)) (@hc 1 46 c1x46)) (@hc 1 47 c1x47)) (@hc 1 48 c1x48)) (@hc 1 49 c1x49)) (@hc 1 50 c1x50)) (@hc 1 51 c1x51)) (@hc 1 52 c1x52)) (@hc 1 53 c1x53)) (@hc 1 54 c1x54)) (@hc 1 55 c1x55)) (@hc 1 56 c1x56)) (@hc 1 57 c1x57)) (@hc 1 58 c1x58)) (@hc 1 59 c1x59))
theorem cp2 : AllLt (fun h => Holds 2 h) 60 := (And.intro (And.intro (And.intro (And.intro (And.intro (And.intro (And.intro (And.intro (And.intro (And.intro (And.intro (And.intro (And.intro (And.intro (And.intro (And.intro (And.intro (And.intro (And.intro (And.intro (And.intro (And.intro (And.intro (And.intro (And.intro (And.intro (And.intro (And.intro (And.intro (And.intro (And.intro (And.intro (And.intro (And.intro (And.intro (And.intro (And.intro (And.intro (And.intro (And.intro (And.intro (And.intro (And.intro (And.intro (And.intro (And.intro (And.intro (And.intro (And.intro (And.intro (And.intro (And.intro (And.intro (And.intro (And.intro (And.intro (And.intro (And.intro (And.intro (And.intro trivial (@hc 2 0 c2x0)) (@hc 2 1 c2x1)) (@hc 2 2 c2x2)) (@hc 2 3 c2x3)) (@hc 2 4 c2x4)) (@hc 2 5 c2x5)) (@hc 2 6 c2x6)) (@hc 2 7 c2x7)) (@hc 2 8 c2x8)) (@hc 2 9 c2x9)) (@hc 2 10 c2x10)) (@hc 2 11 c2x11)) (@hc 2 12 c2x12)) (@hc 2 13 c2x13)) (@hc 2 14 c2x14)) (@hc 2 15 c2x15)) (@hc 2 16 c2x16)) (@hc 2 17 c2x17)) (@hc 2 18 c2x18)) (@hc 2 19 c2x19)) (@hc 2 20 c2x20)) (@hc 2 21 c2x21)) (@hc 2 22 c2x22)) (@hc 2 23 c2x23)) (@hc 2 24 c2x24)) (@hc 2 25 c2x25)) (@hc 2 26 c2x26)) (@hc 2 27 c2x27)) (@hc 2 28 c2x28)) (@hc 2 29 c2x29)) (@hc 2 30 c2x30)) (@hc 2 31 c2x31)) (@hc 2 32 c2x32)) (@hc 2 33 c2x33)) (@hc 2 34 c2x34)) (@hc 2 35 c2x35)) (@hc 2 36 c2x36)) (@hc 2 37 c2x37)) (@hc 2 38 c2x38)) (@hc 2 39 c2x39)) (@hc 2 40 c2x40)) (@hc 2 41 c2x41)) (@hc 2 42 c2x42)) (@hc 2 43 c2x43)) (@hc 2 44 c2x44)) (@hc 2 45 c2x45)) (@hc 2 46 c2x46)) (@hc 2 47 c2x47)) (@hc 2 48 c2x48)) (@hc 2 49 c2x49)) (@hc 2 50 c2x50)) (@hc 2 51 c2x51)) (@hc 2 52 c2x52)) (@hc 2 53 c2x53)) (@hc 2 54 c2x54)) (@hc 2 55 c2x55)) (@hc 2 56 c2x56)) (@hc 2 57 c2x57)) (@hc 2 58 c2x58)) (@hc 2 59 c2x59))
theorem cp3 : AllLt (fun h => Holds 3 h) 60 := (And.intro (And.intro (And.intro (And.intro (And.intro (And.intro (And.intro (And.intro (And.intro (And.intro (And.intro (And.intro (And.intro (And.intro (And.intro (And.intro (And.intro (And.intro (And.intro (And.intro (And.intro (And.intro (And.intro (And.intro (And.intro (And.intro (And.intro (And.intro (And.intro (And.intro (And.intro (And.intro (And.intro (And.intro (And.intro (And.intro (And.intro (And.intro (And.intro (And.intro (And.intro (And.intro (And.intro (And.intro (And.intro (And.intro (And.intro (And.intro (And.intro (And.intro (And.intro (And.intro (And.intro (And.intro (And.intro (And.intro (And.intro (And.intro (And.intro (And.intro trivial (@hc 3 0 c3x0)) (@hc 3 1 c3x1)) (@hc 3 2 c3x2)) (@hc 3 3 c3x3)) (@hc 3 4 c3x4)) (@hc 3 5 c3x5)) (@hc 3 6 c3x6)) (@hc 3 7 c3x7)) (@hc 3 8 c3x8)) (@hc 3 9 c3x9)) (@hc 3 10 c3x10)) (@hc 3 11 c3x11)) (@hc 3 12 c3x12)) (@hc 3 13 c3x13)) (@hc 3 14 c3x14)) (@hc 3 15 c3x15)) (@hc 3 16 c3x16)) (@hc 3 17 c3x17)) (@hc 3 18 c3x18)) (@hc 3 19 c3x19)) (@hc 3 20 c3x20)) (@hc 3 21 c3x21)) (@hc 3 22 c3x22)) (@hc 3 23 c3x23)) (@hc 3 24 c3x24)) (@hc 3 25 c3x25)) (@hc 3 26 c3x26)) (@hc 3 27 c3x27)) (@hc 3 28 c3x28)) (@hc 3 29 c3x29)) (@hc 3 30 c3x30)) (@hc 3 31 c3x31)) (@hc 3 32 c3x32)) (@hc 3 33 c3x33)) (@hc 3 34 c3x34)) (@hc 3 35 c3x35)) (@hc 3 36 c3x36)) (@hc 3 37 c3x37)) (@hc 3 38 c3x38)) (@hc 3 39 c3x39)) (@hc 3 40 c3x40)) (@hc 3 41 c3x41)) (@hc 3 42 c3x42)) (@hc 3 43 c3x43)) (@hc 3 44 c3x44)) (@hc 3 45 c3x45)) (@hc 3 46 c3x46)) (@hc 3 47 c3x47)) (@hc 3 48 c3x48)) (@hc 3 49 c3x49)) (@hc 3 50 c3x50)) (@hc 3 51 c3x51)) (@hc 3 52 c3x52)) (@hc 3 53 c3x53)) (@hc 3 54 c3x54)) (@hc 3 55 c3x55)) (@hc 3 56 c3x56)) (@hc 3 57 c3x57)) (@hc 3 58 c3x58)) (@hc 3 59 c3x59))
theorem go_all (p h : Nat) (hp : p < 4) (hh : h < 60) : go5 p h = true := by
  match p, hp with
  | 0, _ => exact (cp0.get h hh).out
  | 1, _ => exact (cp1.get h hh).out
  | 2, _ => exact (cp2.get h hh).out
  | 3, _ => exact (cp3.get h hh).out
theorem sf_all (p h : Nat) : sf5 0 p h 0 1 str0 0 (fun r m t s d => Nat.beq r 1) = true := by
  rw [sfgf]
  have h := go_all (Nat.mod p 4) (Nat.mod h 60) (Nat.mod_lt _ (by decide)) (Nat.mod_lt _ (by decide))
  unfold go5 at h
  rw [force_eq] at h
  exact h
theorem comes_again (a0 a1 a2 : Int) (w0 : 0 ≤ a0 ∧ a0 ≤ 18446744073709551615) (w1 : 0 ≤ a1 ∧ a1 ≤ 255) (w2 : 0 ≤ a2 ∧ a2 ≤ 255) (w : World) :
    Calls Tryz.prog 5 #[.int .u64 a0, .int .u8 a1, .int .u8 a2] w fun e w' => e = .returned (.bool true) ∧ Kept w w' := by
  obtain ⟨p, rfl⟩ := Int.eq_ofNat_of_zero_le w1.1
  obtain ⟨h, rfl⟩ := Int.eq_ofNat_of_zero_le w2.1
  have hp : p < 256 := by omega
  have hh : h < 256 := by omega
  exact says_true3 (F := sf5) ok5 Tryz.func5 (by kernel_rfl) (by kernel_rfl) (x := 0) (y := p) (z := h) ⟨by decide, a0, rfl, w0.1, by omega⟩ ⟨by omega, rfl, hp⟩ ⟨by omega, rfl, hh⟩ (sf_all p h) w
end Go.Proofs.YtaekfgbfpfecdaaGreat.VM
