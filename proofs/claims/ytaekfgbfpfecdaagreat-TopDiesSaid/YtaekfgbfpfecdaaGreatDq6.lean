/- TopDies on the machine: some of its cases; no conditions. -/
import Derived.Test.YtaekfgbfpfecdaaGreatDb
namespace Go.Proofs.YtaekfgbfpfecdaaGreat.VM
open Go R
set_option linter.unusedVariables false
set_option maxRecDepth 1000000
theorem c_1_4_0 : Nat.add (w 1 4 0) 1 = 2 := by kernel_rfl
theorem c_1_4_1 : Nat.add (w 1 4 1) 1 = 2 := by kernel_rfl
theorem c_1_4_2 : Nat.add (w 1 4 2) 1 = 2 := by kernel_rfl
theorem c_1_4_3 : Nat.add (w 1 4 3) 1 = 2 := by kernel_rfl
theorem c_1_4_4 : Nat.add (w 1 4 4) 1 = 2 := by kernel_rfl
theorem c_1_4_5 : Nat.add (w 1 4 5) 1 = 2 := by kernel_rfl
theorem c_1_4_6 : Nat.add (w 1 4 6) 1 = 2 := by kernel_rfl
theorem c_1_4_7 : Nat.add (w 1 4 7) 1 = 2 := by kernel_rfl
theorem c_1_4_8 : Nat.add (w 1 4 8) 1 = 2 := by kernel_rfl
theorem c_1_4_9 : Nat.add (w 1 4 9) 1 = 2 := by kernel_rfl
theorem c_1_4_10 : Nat.add (w 1 4 10) 1 = 2 := by kernel_rfl
theorem c_1_4_11 : Nat.add (w 1 4 11) 1 = 2 := by kernel_rfl
theorem c_1_4_12 : Nat.add (w 1 4 12) 1 = 2 := by kernel_rfl
theorem c_1_4_13 : Nat.add (w 1 4 13) 1 = 2 := by kernel_rfl
theorem c_1_4_14 : Nat.add (w 1 4 14) 1 = 2 := by kernel_rfl
theorem c_1_4_15 : Nat.add (w 1 4 15) 1 = 2 := by kernel_rfl
theorem c_1_4_16 : Nat.add (w 1 4 16) 1 = 2 := by kernel_rfl
theorem c_1_4_17 : Nat.add (w 1 4 17) 1 = 2 := by kernel_rfl
theorem c_1_4_18 : Nat.add (w 1 4 18) 1 = 2 := by kernel_rfl
theorem c_1_4_19 : Nat.add (w 1 4 19) 1 = 2 := by kernel_rfl
theorem c_1_5_0 : Nat.add (w 1 5 0) 1 = 2 := by kernel_rfl
theorem c_1_5_1 : Nat.add (w 1 5 1) 1 = 2 := by kernel_rfl
theorem c_1_5_2 : Nat.add (w 1 5 2) 1 = 2 := by kernel_rfl
theorem c_1_5_3 : Nat.add (w 1 5 3) 1 = 2 := by kernel_rfl
theorem c_1_5_4 : Nat.add (w 1 5 4) 1 = 2 := by kernel_rfl
theorem c_1_5_5 : Nat.add (w 1 5 5) 1 = 2 := by kernel_rfl
theorem c_1_5_6 : Nat.add (w 1 5 6) 1 = 2 := by kernel_rfl
theorem c_1_5_7 : Nat.add (w 1 5 7) 1 = 2 := by kernel_rfl
theorem c_1_5_8 : Nat.add (w 1 5 8) 1 = 2 := by kernel_rfl
theorem c_1_5_9 : Nat.add (w 1 5 9) 1 = 2 := by kernel_rfl
theorem c_1_5_10 : Nat.add (w 1 5 10) 1 = 2 := by kernel_rfl
theorem c_1_5_11 : Nat.add (w 1 5 11) 1 = 2 := by kernel_rfl
theorem c_1_5_12 : Nat.add (w 1 5 12) 1 = 2 := by kernel_rfl
theorem c_1_5_13 : Nat.add (w 1 5 13) 1 = 2 := by kernel_rfl
theorem c_1_5_14 : Nat.add (w 1 5 14) 1 = 2 := by kernel_rfl
theorem c_1_5_15 : Nat.add (w 1 5 15) 1 = 2 := by kernel_rfl
theorem c_1_5_16 : Nat.add (w 1 5 16) 1 = 2 := by kernel_rfl
theorem c_1_5_17 : Nat.add (w 1 5 17) 1 = 2 := by kernel_rfl
theorem c_1_5_18 : Nat.add (w 1 5 18) 1 = 2 := by kernel_rfl
theorem c_1_5_19 : Nat.add (w 1 5 19) 1 = 2 := by kernel_rfl
end Go.Proofs.YtaekfgbfpfecdaaGreat.VM
