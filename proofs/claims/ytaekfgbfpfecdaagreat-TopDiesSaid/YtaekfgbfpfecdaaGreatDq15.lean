/- TopDies on the machine: some of its cases; no conditions. -/
import Derived.Test.YtaekfgbfpfecdaaGreatDb
namespace Go.Proofs.YtaekfgbfpfecdaaGreat.VM
open Go R
set_option linter.unusedVariables false
set_option maxRecDepth 1000000
theorem c_3_6_0 : Nat.add (w 3 6 0) 1 = 2 := by kernel_rfl
theorem c_3_6_1 : Nat.add (w 3 6 1) 1 = 2 := by kernel_rfl
theorem c_3_6_2 : Nat.add (w 3 6 2) 1 = 2 := by kernel_rfl
theorem c_3_6_3 : Nat.add (w 3 6 3) 1 = 2 := by kernel_rfl
theorem c_3_6_4 : Nat.add (w 3 6 4) 1 = 2 := by kernel_rfl
theorem c_3_6_5 : Nat.add (w 3 6 5) 1 = 2 := by kernel_rfl
theorem c_3_6_6 : Nat.add (w 3 6 6) 1 = 2 := by kernel_rfl
theorem c_3_6_7 : Nat.add (w 3 6 7) 1 = 2 := by kernel_rfl
theorem c_3_6_8 : Nat.add (w 3 6 8) 1 = 2 := by kernel_rfl
theorem c_3_6_9 : Nat.add (w 3 6 9) 1 = 2 := by kernel_rfl
theorem c_3_6_10 : Nat.add (w 3 6 10) 1 = 2 := by kernel_rfl
theorem c_3_6_11 : Nat.add (w 3 6 11) 1 = 2 := by kernel_rfl
theorem c_3_6_12 : Nat.add (w 3 6 12) 1 = 2 := by kernel_rfl
theorem c_3_6_13 : Nat.add (w 3 6 13) 1 = 2 := by kernel_rfl
theorem c_3_6_14 : Nat.add (w 3 6 14) 1 = 2 := by kernel_rfl
theorem c_3_6_15 : Nat.add (w 3 6 15) 1 = 2 := by kernel_rfl
theorem c_3_6_16 : Nat.add (w 3 6 16) 1 = 2 := by kernel_rfl
theorem c_3_6_17 : Nat.add (w 3 6 17) 1 = 2 := by kernel_rfl
theorem c_3_6_18 : Nat.add (w 3 6 18) 1 = 2 := by kernel_rfl
theorem c_3_6_19 : Nat.add (w 3 6 19) 1 = 2 := by kernel_rfl
theorem c_3_7_0 : Nat.add (w 3 7 0) 1 = 2 := by kernel_rfl
theorem c_3_7_1 : Nat.add (w 3 7 1) 1 = 2 := by kernel_rfl
theorem c_3_7_2 : Nat.add (w 3 7 2) 1 = 2 := by kernel_rfl
theorem c_3_7_3 : Nat.add (w 3 7 3) 1 = 2 := by kernel_rfl
theorem c_3_7_4 : Nat.add (w 3 7 4) 1 = 2 := by kernel_rfl
theorem c_3_7_5 : Nat.add (w 3 7 5) 1 = 2 := by kernel_rfl
theorem c_3_7_6 : Nat.add (w 3 7 6) 1 = 2 := by kernel_rfl
theorem c_3_7_7 : Nat.add (w 3 7 7) 1 = 2 := by kernel_rfl
theorem c_3_7_8 : Nat.add (w 3 7 8) 1 = 2 := by kernel_rfl
theorem c_3_7_9 : Nat.add (w 3 7 9) 1 = 2 := by kernel_rfl
theorem c_3_7_10 : Nat.add (w 3 7 10) 1 = 2 := by kernel_rfl
theorem c_3_7_11 : Nat.add (w 3 7 11) 1 = 2 := by kernel_rfl
theorem c_3_7_12 : Nat.add (w 3 7 12) 1 = 2 := by kernel_rfl
theorem c_3_7_13 : Nat.add (w 3 7 13) 1 = 2 := by kernel_rfl
theorem c_3_7_14 : Nat.add (w 3 7 14) 1 = 2 := by kernel_rfl
theorem c_3_7_15 : Nat.add (w 3 7 15) 1 = 2 := by kernel_rfl
theorem c_3_7_16 : Nat.add (w 3 7 16) 1 = 2 := by kernel_rfl
theorem c_3_7_17 : Nat.add (w 3 7 17) 1 = 2 := by kernel_rfl
theorem c_3_7_18 : Nat.add (w 3 7 18) 1 = 2 := by kernel_rfl
theorem c_3_7_19 : Nat.add (w 3 7 19) 1 = 2 := by kernel_rfl
end Go.Proofs.YtaekfgbfpfecdaaGreat.VM
