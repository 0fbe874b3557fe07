/- TopDies on the machine: some of its cases; no conditions. -/
import Derived.Test.YtaekfgbfpfecdaaGreatDb
namespace Go.Proofs.YtaekfgbfpfecdaaGreat.VM
open Go R
set_option linter.unusedVariables false
set_option maxRecDepth 1000000
theorem c_0_0_0 : Nat.add (w 0 0 0) 1 = 2 := by kernel_rfl
theorem c_0_0_1 : Nat.add (w 0 0 1) 1 = 2 := by kernel_rfl
theorem c_0_0_2 : Nat.add (w 0 0 2) 1 = 2 := by kernel_rfl
theorem c_0_0_3 : Nat.add (w 0 0 3) 1 = 2 := by kernel_rfl
theorem c_0_0_4 : Nat.add (w 0 0 4) 1 = 2 := by kernel_rfl
theorem c_0_0_5 : Nat.add (w 0 0 5) 1 = 2 := by kernel_rfl
theorem c_0_0_6 : Nat.add (w 0 0 6) 1 = 2 := by kernel_rfl
theorem c_0_0_7 : Nat.add (w 0 0 7) 1 = 2 := by kernel_rfl
theorem c_0_0_8 : Nat.add (w 0 0 8) 1 = 2 := by kernel_rfl
theorem c_0_0_9 : Nat.add (w 0 0 9) 1 = 2 := by kernel_rfl
theorem c_0_0_10 : Nat.add (w 0 0 10) 1 = 2 := by kernel_rfl
theorem c_0_0_11 : Nat.add (w 0 0 11) 1 = 2 := by kernel_rfl
theorem c_0_0_12 : Nat.add (w 0 0 12) 1 = 2 := by kernel_rfl
theorem c_0_0_13 : Nat.add (w 0 0 13) 1 = 2 := by kernel_rfl
theorem c_0_0_14 : Nat.add (w 0 0 14) 1 = 2 := by kernel_rfl
theorem c_0_0_15 : Nat.add (w 0 0 15) 1 = 2 := by kernel_rfl
theorem c_0_0_16 : Nat.add (w 0 0 16) 1 = 2 := by kernel_rfl
theorem c_0_0_17 : Nat.add (w 0 0 17) 1 = 2 := by kernel_rfl
theorem c_0_0_18 : Nat.add (w 0 0 18) 1 = 2 := by kernel_rfl
theorem c_0_0_19 : Nat.add (w 0 0 19) 1 = 2 := by kernel_rfl
theorem c_0_1_0 : Nat.add (w 0 1 0) 1 = 2 := by kernel_rfl
theorem c_0_1_1 : Nat.add (w 0 1 1) 1 = 2 := by kernel_rfl
theorem c_0_1_2 : Nat.add (w 0 1 2) 1 = 2 := by kernel_rfl
theorem c_0_1_3 : Nat.add (w 0 1 3) 1 = 2 := by kernel_rfl
theorem c_0_1_4 : Nat.add (w 0 1 4) 1 = 2 := by kernel_rfl
theorem c_0_1_5 : Nat.add (w 0 1 5) 1 = 2 := by kernel_rfl
theorem c_0_1_6 : Nat.add (w 0 1 6) 1 = 2 := by kernel_rfl
theorem c_0_1_7 : Nat.add (w 0 1 7) 1 = 2 := by kernel_rfl
theorem c_0_1_8 : Nat.add (w 0 1 8) 1 = 2 := by kernel_rfl
theorem c_0_1_9 : Nat.add (w 0 1 9) 1 = 2 := by kernel_rfl
theorem c_0_1_10 : Nat.add (w 0 1 10) 1 = 2 := by kernel_rfl
theorem c_0_1_11 : Nat.add (w 0 1 11) 1 = 2 := by kernel_rfl
theorem c_0_1_12 : Nat.add (w 0 1 12) 1 = 2 := by kernel_rfl
theorem c_0_1_13 : Nat.add (w 0 1 13) 1 = 2 := by kernel_rfl
theorem c_0_1_14 : Nat.add (w 0 1 14) 1 = 2 := by kernel_rfl
theorem c_0_1_15 : Nat.add (w 0 1 15) 1 = 2 := by kernel_rfl
theorem c_0_1_16 : Nat.add (w 0 1 16) 1 = 2 := by kernel_rfl
theorem c_0_1_17 : Nat.add (w 0 1 17) 1 = 2 := by kernel_rfl
theorem c_0_1_18 : Nat.add (w 0 1 18) 1 = 2 := by kernel_rfl
theorem c_0_1_19 : Nat.add (w 0 1 19) 1 = 2 := by kernel_rfl
end Go.Proofs.YtaekfgbfpfecdaaGreat.VM
