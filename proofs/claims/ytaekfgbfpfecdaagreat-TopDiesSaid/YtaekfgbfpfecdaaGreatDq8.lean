/- TopDies on the machine: some of its cases; no conditions. -/
import Derived.Test.YtaekfgbfpfecdaaGreatDb
namespace Go.Proofs.YtaekfgbfpfecdaaGreat.VM
open Go R
set_option linter.unusedVariables false
set_option maxRecDepth 1000000
theorem c_2_0_0 : Nat.add (w 2 0 0) 1 = 2 := by kernel_rfl
theorem c_2_0_1 : Nat.add (w 2 0 1) 1 = 2 := by kernel_rfl
theorem c_2_0_2 : Nat.add (w 2 0 2) 1 = 2 := by kernel_rfl
theorem c_2_0_3 : Nat.add (w 2 0 3) 1 = 2 := by kernel_rfl
theorem c_2_0_4 : Nat.add (w 2 0 4) 1 = 2 := by kernel_rfl
theorem c_2_0_5 : Nat.add (w 2 0 5) 1 = 2 := by kernel_rfl
theorem c_2_0_6 : Nat.add (w 2 0 6) 1 = 2 := by kernel_rfl
theorem c_2_0_7 : Nat.add (w 2 0 7) 1 = 2 := by kernel_rfl
theorem c_2_0_8 : Nat.add (w 2 0 8) 1 = 2 := by kernel_rfl
theorem c_2_0_9 : Nat.add (w 2 0 9) 1 = 2 := by kernel_rfl
theorem c_2_0_10 : Nat.add (w 2 0 10) 1 = 2 := by kernel_rfl
theorem c_2_0_11 : Nat.add (w 2 0 11) 1 = 2 := by kernel_rfl
theorem c_2_0_12 : Nat.add (w 2 0 12) 1 = 2 := by kernel_rfl
theorem c_2_0_13 : Nat.add (w 2 0 13) 1 = 2 := by kernel_rfl
theorem c_2_0_14 : Nat.add (w 2 0 14) 1 = 2 := by kernel_rfl
theorem c_2_0_15 : Nat.add (w 2 0 15) 1 = 2 := by kernel_rfl
theorem c_2_0_16 : Nat.add (w 2 0 16) 1 = 2 := by kernel_rfl
theorem c_2_0_17 : Nat.add (w 2 0 17) 1 = 2 := by kernel_rfl
theorem c_2_0_18 : Nat.add (w 2 0 18) 1 = 2 := by kernel_rfl
theorem c_2_0_19 : Nat.add (w 2 0 19) 1 = 2 := by kernel_rfl
theorem c_2_1_0 : Nat.add (w 2 1 0) 1 = 2 := by kernel_rfl
theorem c_2_1_1 : Nat.add (w 2 1 1) 1 = 2 := by kernel_rfl
theorem c_2_1_2 : Nat.add (w 2 1 2) 1 = 2 := by kernel_rfl
theorem c_2_1_3 : Nat.add (w 2 1 3) 1 = 2 := by kernel_rfl
theorem c_2_1_4 : Nat.add (w 2 1 4) 1 = 2 := by kernel_rfl
theorem c_2_1_5 : Nat.add (w 2 1 5) 1 = 2 := by kernel_rfl
theorem c_2_1_6 : Nat.add (w 2 1 6) 1 = 2 := by kernel_rfl
theorem c_2_1_7 : Nat.add (w 2 1 7) 1 = 2 := by kernel_rfl
theorem c_2_1_8 : Nat.add (w 2 1 8) 1 = 2 := by kernel_rfl
theorem c_2_1_9 : Nat.add (w 2 1 9) 1 = 2 := by kernel_rfl
theorem c_2_1_10 : Nat.add (w 2 1 10) 1 = 2 := by kernel_rfl
theorem c_2_1_11 : Nat.add (w 2 1 11) 1 = 2 := by kernel_rfl
theorem c_2_1_12 : Nat.add (w 2 1 12) 1 = 2 := by kernel_rfl
theorem c_2_1_13 : Nat.add (w 2 1 13) 1 = 2 := by kernel_rfl
theorem c_2_1_14 : Nat.add (w 2 1 14) 1 = 2 := by kernel_rfl
theorem c_2_1_15 : Nat.add (w 2 1 15) 1 = 2 := by kernel_rfl
theorem c_2_1_16 : Nat.add (w 2 1 16) 1 = 2 := by kernel_rfl
theorem c_2_1_17 : Nat.add (w 2 1 17) 1 = 2 := by kernel_rfl
theorem c_2_1_18 : Nat.add (w 2 1 18) 1 = 2 := by kernel_rfl
theorem c_2_1_19 : Nat.add (w 2 1 19) 1 = 2 := by kernel_rfl
end Go.Proofs.YtaekfgbfpfecdaaGreat.VM
