/- TopLeaves on the machine: some of its cases; no conditions. -/
import Derived.Test.YtaekfgbfpfecdaaGreatLb
namespace Go.Proofs.YtaekfgbfpfecdaaGreat.VM
open Go R
set_option linter.unusedVariables false
set_option maxRecDepth 1000000
theorem c_1_5 : Nat.add (w 1 5) 1 = 2 := by kernel_rfl
theorem c_1_6 : Nat.add (w 1 6) 1 = 2 := by kernel_rfl
theorem c_1_7 : Nat.add (w 1 7) 1 = 2 := by kernel_rfl
theorem c_1_8 : Nat.add (w 1 8) 1 = 2 := by kernel_rfl
theorem c_1_9 : Nat.add (w 1 9) 1 = 2 := by kernel_rfl
theorem c_1_10 : Nat.add (w 1 10) 1 = 2 := by kernel_rfl
theorem c_1_11 : Nat.add (w 1 11) 1 = 2 := by kernel_rfl
theorem c_1_12 : Nat.add (w 1 12) 1 = 2 := by kernel_rfl
theorem c_1_13 : Nat.add (w 1 13) 1 = 2 := by kernel_rfl
theorem c_1_14 : Nat.add (w 1 14) 1 = 2 := by kernel_rfl
theorem c_1_15 : Nat.add (w 1 15) 1 = 2 := by kernel_rfl
theorem c_1_16 : Nat.add (w 1 16) 1 = 2 := by kernel_rfl
theorem c_1_17 : Nat.add (w 1 17) 1 = 2 := by kernel_rfl
theorem c_1_18 : Nat.add (w 1 18) 1 = 2 := by kernel_rfl
theorem c_1_19 : Nat.add (w 1 19) 1 = 2 := by kernel_rfl
theorem c_2_0 : Nat.add (w 2 0) 1 = 2 := by kernel_rfl
theorem c_2_1 : Nat.add (w 2 1) 1 = 2 := by kernel_rfl
theorem c_2_2 : Nat.add (w 2 2) 1 = 2 := by kernel_rfl
theorem c_2_3 : Nat.add (w 2 3) 1 = 2 := by kernel_rfl
theorem c_2_4 : Nat.add (w 2 4) 1 = 2 := by kernel_rfl
theorem c_2_5 : Nat.add (w 2 5) 1 = 2 := by kernel_rfl
theorem c_2_6 : Nat.add (w 2 6) 1 = 2 := by kernel_rfl
theorem c_2_7 : Nat.add (w 2 7) 1 = 2 := by kernel_rfl
theorem c_2_8 : Nat.add (w 2 8) 1 = 2 := by kernel_rfl
theorem c_2_9 : Nat.add (w 2 9) 1 = 2 := by kernel_rfl
end Go.Proofs.YtaekfgbfpfecdaaGreat.VM
