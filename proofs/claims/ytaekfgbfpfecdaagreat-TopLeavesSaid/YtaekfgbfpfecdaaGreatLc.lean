/- TopLeaves on the machine: all cases together; no conditions. -/
import Derived.Test.YtaekfgbfpfecdaaGreatLq0
import Derived.Test.YtaekfgbfpfecdaaGreatLq1
import Derived.Test.YtaekfgbfpfecdaaGreatLq2
import Derived.Test.YtaekfgbfpfecdaaGreatLq3
import Derived.Test.YtaekfgbfpfecdaaGreatLq4
import Derived.Test.YtaekfgbfpfecdaaGreatLq5
import Derived.Test.YtaekfgbfpfecdaaGreatLq6
import Derived.Test.YtaekfgbfpfecdaaGreatLq7
namespace Go.Proofs.YtaekfgbfpfecdaaGreat.VM
open Go R
set_option linter.unusedVariables false
set_option maxRecDepth 1000000
structure Holds (p h : Nat) : Prop where
  out : go4 p h = true
theorem hc {p h : Nat} (e : Nat.add (w p h) 1 = 2) : Holds p h := ⟨of_bn e⟩
def AllLt (R : Nat → Prop) : Nat → Prop
  | 0 => True
  | n + 1 => AllLt R n ∧ R n
theorem AllLt.get {R : Nat → Prop} : ∀ {n : Nat}, AllLt R n → ∀ i, i < n → R i
  | 0, _, i, h => absurd h (Nat.not_lt_zero _)
  | n + 1, h, i, hi => by
    rcases Nat.lt_or_ge i n with h1 | h1
    · exact h.1.get i h1
    · have : i = n := by omega
      subst this; exact h.2
theorem cp_0 : AllLt (fun h => Holds 0 h) 20 := (And.intro (And.intro (And.intro (And.intro (And.intro (And.intro (And.intro (And.intro (And.intro (And.intro (And.intro (And.intro (And.intro (And.intro (And.intro (And.intro (And.intro (And.intro (And.intro (And.intro trivial (@hc 0 0 c_0_0)) (@hc 0 1 c_0_1)) (@hc 0 2 c_0_2)) (@hc 0 3 c_0_3)) (@hc 0 4 c_0_4)) (@hc 0 5 c_0_5)) (@hc 0 6 c_0_6)) (@hc 0 7 c_0_7)) (@hc 0 8 c_0_8)) (@hc 0 9 c_0_9)) (@hc 0 10 c_0_10)) (@hc 0 11 c_0_11)) (@hc 0 12 c_0_12)) (@hc 0 13 c_0_13)) (@hc 0 14 c_0_14)) (@hc 0 15 c_0_15)) (@hc 0 16 c_0_16)) (@hc 0 17 c_0_17)) (@hc 0 18 c_0_18)) (@hc 0 19 c_0_19))
theorem cp_1 : AllLt (fun h => Holds 1 h) 20 := (And.intro (And.intro (And.intro (And.intro (And.intro (And.intro (And.intro (And.intro (And.intro (And.intro (And.intro (And.intro (And.intro (And.intro (And.intro (And.intro (And.intro (And.intro (And.intro (And.intro trivial (@hc 1 0 c_1_0)) (@hc 1 1 c_1_1)) (@hc 1 2 c_1_2)) (@hc 1 3 c_1_3)) (@hc 1 4 c_1_4)) (@hc 1 5 c_1_5)) (@hc 1 6 c_1_6)) (@hc 1 7 c_1_7)) (@hc 1 8 c_1_8)) (@hc 1 9 c_1_9)) (@hc 1 10 c_1_10)) (@hc 1 11 c_1_11)) (@hc 1 12 c_1_12)) (@hc 1 13 c_1_13)) (@hc 1 14 c_1_14)) (@hc 1 15 c_1_15)) (@hc 1 16 c_1_16)) (@hc 1 17 c_1_17)) (@hc 1 18 c_1_18)) (@hc 1 19 c_1_19))
theorem cp_2 : AllLt (fun h => Holds 2 h) 20 := (And.intro (And.intro (And.intro (And.intro (And.intro (And.intro (And.intro (And.intro (And.intro (And.intro (And.intro (And.intro (And.intro (And.intro (And.intro (And.intro (And.intro (And.intro (And.intro (And.intro trivial (@hc 2 0 c_2_0)) (@hc 2 1 c_2_1)) (@hc 2 2 c_2_2)) (@hc 2 3 c_2_3)) (@hc 2 4 c_2_4)) (@hc 2 5 c_2_5)) (@hc 2 6 c_2_6)) (@hc 2 7 c_2_7)) (@hc 2 8 c_2_8)) (@hc 2 9 c_2_9)) (@hc 2 10 c_2_10)) (@hc 2 11 c_2_11)) (@hc 2 12 c_2_12)) (@hc 2 13 c_2_13)) (@hc 2 14 c_2_14)) (@hc 2 15 c_2_15)) (@hc 2 16 c_2_16)) (@hc 2 17 c_2_17)) (@hc 2 18 c_2_18)) (@hc 2 19 c_2_19))
theorem cp_3 : AllLt (fun h => Holds 3 h) 20 := (And.intro (And.intro (And.intro (And.intro (And.intro (And.intro (And.intro (And.intro (And.intro (And.intro (And.intro (And.intro (And.intro (And.intro (And.intro (And.intro (And.intro (And.intro (And.intro (And.intro trivial (@hc 3 0 c_3_0)) (@hc 3 1 c_3_1)) (@hc 3 2 c_3_2)) (@hc 3 3 c_3_3)) (@hc 3 4 c_3_4)) (@hc 3 5 c_3_5)) (@hc 3 6 c_3_6)) (@hc 3 7 c_3_7)) (@hc 3 8 c_3_8)) (@hc 3 9 c_3_9)) (@hc 3 10 c_3_10)) (@hc 3 11 c_3_11)) (@hc 3 12 c_3_12)) (@hc 3 13 c_3_13)) (@hc 3 14 c_3_14)) (@hc 3 15 c_3_15)) (@hc 3 16 c_3_16)) (@hc 3 17 c_3_17)) (@hc 3 18 c_3_18)) (@hc 3 19 c_3_19))
theorem cp_4 : AllLt (fun h => Holds 4 h) 20 := (And.intro (And.intro (And.intro (And.intro (And.intro (And.intro (And.intro (And.intro (And.intro (And.intro (And.intro (And.intro (And.intro (And.intro (And.intro (And.intro (And.intro (And.intro (And.intro (And.intro trivial (@hc 4 0 c_4_0)) (@hc 4 1 c_4_1)) (@hc 4 2 c_4_2)) (@hc 4 3 c_4_3)) (@hc 4 4 c_4_4)) (@hc 4 5 c_4_5)) (@hc 4 6 c_4_6)) (@hc 4 7 c_4_7)) (@hc 4 8 c_4_8)) (@hc 4 9 c_4_9)) (@hc 4 10 c_4_10)) (@hc 4 11 c_4_11)) (@hc 4 12 c_4_12)) (@hc 4 13 c_4_13)) (@hc 4 14 c_4_14)) (@hc 4 15 c_4_15)) (@hc 4 16 c_4_16)) (@hc 4 17 c_4_17)) (@hc 4 18 c_4_18)) (@hc 4 19 c_4_19))
theorem cp_5 : AllLt (fun h => Holds 5 h) 20 := (And.intro (And.intro (And.intro (And.intro (And.intro (And.intro (And.intro (And.intro (And.intro (And.intro (And.intro (And.intro (And.intro (And.intro (And.intro (And.intro (And.intro (And.intro (And.intro (And.intro trivial (@hc 5 0 c_5_0)) (@hc 5 1 c_5_1)) (@hc 5 2 c_5_2)) (@hc 5 3 c_5_3)) (@hc 5 4 c_5_4)) (@hc 5 5 c_5_5)) (@hc 5 6 c_5_6)) (@hc 5 7 c_5_7)) (@hc 5 8 c_5_8)) (@hc 5 9 c_5_9)) (@hc 5 10 c_5_10)) (@hc 5 11 c_5_11)) (@hc 5 12 c_5_12)) (@hc 5 13 c_5_13)) (@hc 5 14 c_5_14)) (@hc 5 15 c_5_15)) (@hc 5 16 c_5_16)) (@hc 5 17 c_5_17)) (@hc 5 18 c_5_18)) (@hc 5 19 c_5_19))
theorem cp_6 : AllLt (fun h => Holds 6 h) 20 := (And.intro (And.intro (And.intro (And.intro (And.intro (And.intro (And.intro (And.intro (And.intro (And.intro (And.intro (And.intro (And.intro (And.intro (And.intro (And.intro (And.intro (And.intro (And.intro (And.intro trivial (@hc 6 0 c_6_0)) (@hc 6 1 c_6_1)) (@hc 6 2 c_6_2)) (@hc 6 3 c_6_3)) (@hc 6 4 c_6_4)) (@hc 6 5 c_6_5)) (@hc 6 6 c_6_6)) (@hc 6 7 c_6_7)) (@hc 6 8 c_6_8)) (@hc 6 9 c_6_9)) (@hc 6 10 c_6_10)) (@hc 6 11 c_6_11)) (@hc 6 12 c_6_12)) (@hc 6 13 c_6_13)) (@hc 6 14 c_6_14)) (@hc 6 15 c_6_15)) (@hc 6 16 c_6_16)) (@hc 6 17 c_6_17)) (@hc 6 18 c_6_18)) (@hc 6 19 c_6_19))
theorem cp_7 : AllLt (fun h => Holds 7 h) 20 := (And.intro (And.intro (And.intro (And.intro (And.intro (And.intro (And.intro (And.intro (And.intro (And.intro (And.intro (And.intro (And.intro (And.intro (And.intro (And.intro (And.intro (And.intro (And.intro (And.intro trivial (@hc 7 0 c_7_0)) (@hc 7 1 c_7_1)) (@hc 7 2 c_7_2)) (@hc 7 3 c_7_3)) (@hc 7 4 c_7_4)) (@hc 7 5 c_7_5)) (@hc 7 6 c_7_6)) (@hc 7 7 c_7_7)) (@hc 7 8 c_7_8)) (@hc 7 9 c_7_9)) (@hc 7 10 c_7_10)) (@hc 7 11 c_7_11)) (@hc 7 12 c_7_12)) (@hc 7 13 c_7_13)) (@hc 7 14 c_7_14)) (@hc 7 15 c_7_15)) (@hc 7 16 c_7_16)) (@hc 7 17 c_7_17)) (@hc 7 18 c_7_18)) (@hc 7 19 c_7_19))
theorem cp_8 : AllLt (fun h => Holds 8 h) 20 := (And.intro (And.intro (And.intro (And.intro (And.intro (And.intro (And.intro (And.intro (And.intro (And.intro (And.intro (And.intro (And.intro (And.intro (And.intro (And.intro (And.intro (And.intro (And.intro (And.intro trivial (@hc 8 0 c_8_0)) (@hc 8 1 c_8_1)) (@hc 8 2 c_8_2)) (@hc 8 3 c_8_3)) (@hc 8 4 c_8_4)) (@hc 8 5 c_8_5)) (@hc 8 6 c_8_6)) (@hc 8 7 c_8_7)) (@hc 8 8 c_8_8)) (@hc 8 9 c_8_9)) (@hc 8 10 c_8_10)) (@hc 8 11 c_8_11)) (@hc 8 12 c_8_12)) (@hc 8 13 c_8_13)) (@hc 8 14 c_8_14)) (@hc 8 15 c_8_15)) (@hc 8 16 c_8_16)) (@hc 8 17 c_8_17)) (@hc 8 18 c_8_18)) (@hc 8 19 c_8_19))
theorem cp_9 : AllLt (fun h => Holds 9 h) 20 := (And.intro (And.intro (And.intro (And.intro (And.intro (And.intro (And.intro (And.intro (And.intro (And.intro (And.intro (And.intro (And.intro (And.intro (And.intro (And.intro (And.intro (And.intro (And.intro (And.intro trivial (@hc 9 0 c_9_0)) (@hc 9 1 c_9_1)) (@hc 9 2 c_9_2)) (@hc 9 3 c_9_3)) (@hc 9 4 c_9_4)) (@hc 9 5 c_9_5)) (@hc 9 6 c_9_6)) (@hc 9 7 c_9_7)) (@hc 9 8 c_9_8)) (@hc 9 9 c_9_9)) (@hc 9 10 c_9_10)) (@hc 9 11 c_9_11)) (@hc 9 12 c_9_12)) (@hc 9 13 c_9_13)) (@hc 9 14 c_9_14)) (@hc 9 15 c_9_15)) (@hc 9 16 c_9_16)) (@hc 9 17 c_9_17)) (@hc 9 18 c_9_18)) (@hc 9 19 c_9_19))
theorem go_all (p h : Nat) (hp : p < 10) (hh : h < 20) : go4 p h = true := by
  match p, hp with
  | 0, _ => exact (cp_0.get h hh).out
  | 1, _ => exact (cp_1.get h hh).out
  | 2, _ => exact (cp_2.get h hh).out
  | 3, _ => exact (cp_3.get h hh).out
  | 4, _ => exact (cp_4.get h hh).out
  | 5, _ => exact (cp_5.get h hh).out
  | 6, _ => exact (cp_6.get h hh).out
  | 7, _ => exact (cp_7.get h hh).out
  | 8, _ => exact (cp_8.get h hh).out
  | 9, _ => exact (cp_9.get h hh).out
theorem sf_all (p h : Nat) : sf4 0 p h 0 1 str0 0 (fun r m t s d => Nat.beq r 1) = true := by
  rw [sf4_gf4]
  have h := go_all (Nat.mod p 10) (Nat.mod h 20) (Nat.mod_lt _ (by decide)) (Nat.mod_lt _ (by decide))
  unfold go4 at h
  rw [force_eq] at h
  exact h
theorem leaves (a0 a1 a2 : Int) (w0 : 0 ≤ a0 ∧ a0 ≤ 18446744073709551615) (w1 : 0 ≤ a1 ∧ a1 ≤ 255) (w2 : 0 ≤ a2 ∧ a2 ≤ 255) (w : World) :
    Calls Tryz.prog 4 #[.int .u64 a0, .int .u8 a1, .int .u8 a2] w fun e w' => e = .returned (.bool true) ∧ Kept w w' := by
  obtain ⟨p, rfl⟩ := Int.eq_ofNat_of_zero_le w1.1
  obtain ⟨h, rfl⟩ := Int.eq_ofNat_of_zero_le w2.1
  have hp : p < 256 := by omega
  have hh : h < 256 := by omega
  exact says_true3 (F := sf4) ok4 Tryz.func4 (by kernel_rfl) (by kernel_rfl) (x := 0) (y := p) (z := h) ⟨by decide, a0, rfl, w0.1, by omega⟩ ⟨by omega, rfl, hp⟩ ⟨by omega, rfl, hh⟩ (sf_all p h) w
end Go.Proofs.YtaekfgbfpfecdaaGreat.VM
