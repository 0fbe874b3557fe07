/- TopLeaves on the machine: some of its cases; no conditions. -/
import Derived.Test.YtaekfgbfpfecdaaGreatLb
namespace Go.Proofs.YtaekfgbfpfecdaaGreat.VM
open Go R
set_option linter.unusedVariables false
set_option maxRecDepth 1000000
theorem c_7_10 : Nat.add (w 7 10) 1 = 2 := by kernel_rfl
theorem c_7_11 : Nat.add (w 7 11) 1 = 2 := by kernel_rfl
theorem c_7_12 : Nat.add (w 7 12) 1 = 2 := by kernel_rfl
theorem c_7_13 : Nat.add (w 7 13) 1 = 2 := by kernel_rfl
theorem c_7_14 : Nat.add (w 7 14) 1 = 2 := by kernel_rfl
theorem c_7_15 : Nat.add (w 7 15) 1 = 2 := by kernel_rfl
theorem c_7_16 : Nat.add (w 7 16) 1 = 2 := by kernel_rfl
theorem c_7_17 : Nat.add (w 7 17) 1 = 2 := by kernel_rfl
theorem c_7_18 : Nat.add (w 7 18) 1 = 2 := by kernel_rfl
theorem c_7_19 : Nat.add (w 7 19) 1 = 2 := by kernel_rfl
theorem c_8_0 : Nat.add (w 8 0) 1 = 2 := by kernel_rfl
theorem c_8_1 : Nat.add (w 8 1) 1 = 2 := by kernel_rfl
theorem c_8_2 : Nat.add (w 8 2) 1 = 2 := by kernel_rfl
theorem c_8_3 : Nat.add (w 8 3) 1 = 2 := by kernel_rfl
theorem c_8_4 : Nat.add (w 8 4) 1 = 2 := by kernel_rfl
theorem c_8_5 : Nat.add (w 8 5) 1 = 2 := by kernel_rfl
theorem c_8_6 : Nat.add (w 8 6) 1 = 2 := by kernel_rfl
theorem c_8_7 : Nat.add (w 8 7) 1 = 2 := by kernel_rfl
theorem c_8_8 : Nat.add (w 8 8) 1 = 2 := by kernel_rfl
theorem c_8_9 : Nat.add (w 8 9) 1 = 2 := by kernel_rfl
theorem c_8_10 : Nat.add (w 8 10) 1 = 2 := by kernel_rfl
theorem c_8_11 : Nat.add (w 8 11) 1 = 2 := by kernel_rfl
theorem c_8_12 : Nat.add (w 8 12) 1 = 2 := by kernel_rfl
theorem c_8_13 : Nat.add (w 8 13) 1 = 2 := by kernel_rfl
theorem c_8_14 : Nat.add (w 8 14) 1 = 2 := by kernel_rfl
end Go.Proofs.YtaekfgbfpfecdaaGreat.VM
