/- TopDies on the machine: some of its cases; no conditions. -/
import Derived.Test.YtaekfgbfpfecdaaGreatDb
namespace Go.Proofs.YtaekfgbfpfecdaaGreat.VM
open Go R
set_option linter.unusedVariables false
set_option maxRecDepth 1000000
theorem c_2_4_0 : Nat.add (w 2 4 0) 1 = 2 := by kernel_rfl
theorem c_2_4_1 : Nat.add (w 2 4 1) 1 = 2 := by kernel_rfl
theorem c_2_4_2 : Nat.add (w 2 4 2) 1 = 2 := by kernel_rfl
theorem c_2_4_3 : Nat.add (w 2 4 3) 1 = 2 := by kernel_rfl
theorem c_2_4_4 : Nat.add (w 2 4 4) 1 = 2 := by kernel_rfl
theorem c_2_4_5 : Nat.add (w 2 4 5) 1 = 2 := by kernel_rfl
theorem c_2_4_6 : Nat.add (w 2 4 6) 1 = 2 := by kernel_rfl
theorem c_2_4_7 : Nat.add (w 2 4 7) 1 = 2 := by kernel_rfl
theorem c_2_4_8 : Nat.add (w 2 4 8) 1 = 2 := by kernel_rfl
theorem c_2_4_9 : Nat.add (w 2 4 9) 1 = 2 := by kernel_rfl
theorem c_2_4_10 : Nat.add (w 2 4 10) 1 = 2 := by kernel_rfl
theorem c_2_4_11 : Nat.add (w 2 4 11) 1 = 2 := by kernel_rfl
theorem c_2_4_12 : Nat.add (w 2 4 12) 1 = 2 := by kernel_rfl
theorem c_2_4_13 : Nat.add (w 2 4 13) 1 = 2 := by kernel_rfl
theorem c_2_4_14 : Nat.add (w 2 4 14) 1 = 2 := by kernel_rfl
theorem c_2_4_15 : Nat.add (w 2 4 15) 1 = 2 := by kernel_rfl
theorem c_2_4_16 : Nat.add (w 2 4 16) 1 = 2 := by kernel_rfl
theorem c_2_4_17 : Nat.add (w 2 4 17) 1 = 2 := by kernel_rfl
theorem c_2_4_18 : Nat.add (w 2 4 18) 1 = 2 := by kernel_rfl
theorem c_2_4_19 : Nat.add (w 2 4 19) 1 = 2 := by kernel_rfl
theorem c_2_5_0 : Nat.add (w 2 5 0) 1 = 2 := by kernel_rfl
theorem c_2_5_1 : Nat.add (w 2 5 1) 1 = 2 := by kernel_rfl
theorem c_2_5_2 : Nat.add (w 2 5 2) 1 = 2 := by kernel_rfl
theorem c_2_5_3 : Nat.add (w 2 5 3) 1 = 2 := by kernel_rfl
theorem c_2_5_4 : Nat.add (w 2 5 4) 1 = 2 := by kernel_rfl
theorem c_2_5_5 : Nat.add (w 2 5 5) 1 = 2 := by kernel_rfl
theorem c_2_5_6 : Nat.add (w 2 5 6) 1 = 2 := by kernel_rfl
theorem c_2_5_7 : Nat.add (w 2 5 7) 1 = 2 := by kernel_rfl
theorem c_2_5_8 : Nat.add (w 2 5 8) 1 = 2 := by kernel_rfl
theorem c_2_5_9 : Nat.add (w 2 5 9) 1 = 2 := by kernel_rfl
theorem c_2_5_10 : Nat.add (w 2 5 10) 1 = 2 := by kernel_rfl
theorem c_2_5_11 : Nat.add (w 2 5 11) 1 = 2 := by kernel_rfl
theorem c_2_5_12 : Nat.add (w 2 5 12) 1 = 2 := by kernel_rfl
theorem c_2_5_13 : Nat.add (w 2 5 13) 1 = 2 := by kernel_rfl
theorem c_2_5_14 : Nat.add (w 2 5 14) 1 = 2 := by kernel_rfl
theorem c_2_5_15 : Nat.add (w 2 5 15) 1 = 2 := by kernel_rfl
theorem c_2_5_16 : Nat.add (w 2 5 16) 1 = 2 := by kernel_rfl
theorem c_2_5_17 : Nat.add (w 2 5 17) 1 = 2 := by kernel_rfl
theorem c_2_5_18 : Nat.add (w 2 5 18) 1 = 2 := by kernel_rfl
theorem c_2_5_19 : Nat.add (w 2 5 19) 1 = 2 := by kernel_rfl
end Go.Proofs.YtaekfgbfpfecdaaGreat.VM
