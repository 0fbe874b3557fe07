/- TopDies on the machine: some of its cases; no conditions. -/
import Derived.Test.YtaekfgbfpfecdaaGreatDb
namespace Go.Proofs.YtaekfgbfpfecdaaGreat.VM
open Go R
set_option linter.unusedVariables false
set_option maxRecDepth 1000000
theorem c_2_6_0 : Nat.add (w 2 6 0) 1 = 2 := by kernel_rfl
theorem c_2_6_1 : Nat.add (w 2 6 1) 1 = 2 := by kernel_rfl
theorem c_2_6_2 : Nat.add (w 2 6 2) 1 = 2 := by kernel_rfl
theorem c_2_6_3 : Nat.add (w 2 6 3) 1 = 2 := by kernel_rfl
theorem c_2_6_4 : Nat.add (w 2 6 4) 1 = 2 := by kernel_rfl
theorem c_2_6_5 : Nat.add (w 2 6 5) 1 = 2 := by kernel_rfl
theorem c_2_6_6 : Nat.add (w 2 6 6) 1 = 2 := by kernel_rfl
theorem c_2_6_7 : Nat.add (w 2 6 7) 1 = 2 := by kernel_rfl
theorem c_2_6_8 : Nat.add (w 2 6 8) 1 = 2 := by kernel_rfl
theorem c_2_6_9 : Nat.add (w 2 6 9) 1 = 2 := by kernel_rfl
theorem c_2_6_10 : Nat.add (w 2 6 10) 1 = 2 := by kernel_rfl
theorem c_2_6_11 : Nat.add (w 2 6 11) 1 = 2 := by kernel_rfl
theorem c_2_6_12 : Nat.add (w 2 6 12) 1 = 2 := by kernel_rfl
theorem c_2_6_13 : Nat.add (w 2 6 13) 1 = 2 := by kernel_rfl
theorem c_2_6_14 : Nat.add (w 2 6 14) 1 = 2 := by kernel_rfl
theorem c_2_6_15 : Nat.add (w 2 6 15) 1 = 2 := by kernel_rfl
theorem c_2_6_16 : Nat.add (w 2 6 16) 1 = 2 := by kernel_rfl
theorem c_2_6_17 : Nat.add (w 2 6 17) 1 = 2 := by kernel_rfl
theorem c_2_6_18 : Nat.add (w 2 6 18) 1 = 2 := by kernel_rfl
theorem c_2_6_19 : Nat.add (w 2 6 19) 1 = 2 := by kernel_rfl
theorem c_2_7_0 : Nat.add (w 2 7 0) 1 = 2 := by kernel_rfl
theorem c_2_7_1 : Nat.add (w 2 7 1) 1 = 2 := by kernel_rfl
theorem c_2_7_2 : Nat.add (w 2 7 2) 1 = 2 := by kernel_rfl
theorem c_2_7_3 : Nat.add (w 2 7 3) 1 = 2 := by kernel_rfl
theorem c_2_7_4 : Nat.add (w 2 7 4) 1 = 2 := by kernel_rfl
theorem c_2_7_5 : Nat.add (w 2 7 5) 1 = 2 := by kernel_rfl
theorem c_2_7_6 : Nat.add (w 2 7 6) 1 = 2 := by kernel_rfl
theorem c_2_7_7 : Nat.add (w 2 7 7) 1 = 2 := by kernel_rfl
theorem c_2_7_8 : Nat.add (w 2 7 8) 1 = 2 := by kernel_rfl
theorem c_2_7_9 : Nat.add (w 2 7 9) 1 = 2 := by kernel_rfl
theorem c_2_7_10 : Nat.add (w 2 7 10) 1 = 2 := by kernel_rfl
theorem c_2_7_11 : Nat.add (w 2 7 11) 1 = 2 := by kernel_rfl
theorem c_2_7_12 : Nat.add (w 2 7 12) 1 = 2 := by kernel_rfl
theorem c_2_7_13 : Nat.add (w 2 7 13) 1 = 2 := by kernel_rfl
theorem c_2_7_14 : Nat.add (w 2 7 14) 1 = 2 := by kernel_rfl
theorem c_2_7_15 : Nat.add (w 2 7 15) 1 = 2 := by kernel_rfl
theorem c_2_7_16 : Nat.add (w 2 7 16) 1 = 2 := by kernel_rfl
theorem c_2_7_17 : Nat.add (w 2 7 17) 1 = 2 := by kernel_rfl
theorem c_2_7_18 : Nat.add (w 2 7 18) 1 = 2 := by kernel_rfl
theorem c_2_7_19 : Nat.add (w 2 7 19) 1 = 2 := by kernel_rfl
end Go.Proofs.YtaekfgbfpfecdaaGreat.VM
