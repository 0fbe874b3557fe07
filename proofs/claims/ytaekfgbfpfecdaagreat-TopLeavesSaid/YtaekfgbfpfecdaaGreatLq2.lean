/- TopLeaves on the machine: some of its cases; no conditions. -/
import Derived.Test.YtaekfgbfpfecdaaGreatLb
namespace Go.Proofs.YtaekfgbfpfecdaaGreat.VM
open Go R
set_option linter.unusedVariables false
set_option maxRecDepth 1000000
theorem c_2_10 : Nat.add (w 2 10) 1 = 2 := by kernel_rfl
theorem c_2_11 : Nat.add (w 2 11) 1 = 2 := by kernel_rfl
theorem c_2_12 : Nat.add (w 2 12) 1 = 2 := by kernel_rfl
theorem c_2_13 : Nat.add (w 2 13) 1 = 2 := by kernel_rfl
theorem c_2_14 : Nat.add (w 2 14) 1 = 2 := by kernel_rfl
theorem c_2_15 : Nat.add (w 2 15) 1 = 2 := by kernel_rfl
theorem c_2_16 : Nat.add (w 2 16) 1 = 2 := by kernel_rfl
theorem c_2_17 : Nat.add (w 2 17) 1 = 2 := by kernel_rfl
theorem c_2_18 : Nat.add (w 2 18) 1 = 2 := by kernel_rfl
theorem c_2_19 : Nat.add (w 2 19) 1 = 2 := by kernel_rfl
theorem c_3_0 : Nat.add (w 3 0) 1 = 2 := by kernel_rfl
theorem c_3_1 : Nat.add (w 3 1) 1 = 2 := by kernel_rfl
theorem c_3_2 : Nat.add (w 3 2) 1 = 2 := by kernel_rfl
theorem c_3_3 : Nat.add (w 3 3) 1 = 2 := by kernel_rfl
theorem c_3_4 : Nat.add (w 3 4) 1 = 2 := by kernel_rfl
theorem c_3_5 : Nat.add (w 3 5) 1 = 2 := by kernel_rfl
theorem c_3_6 : Nat.add (w 3 6) 1 = 2 := by kernel_rfl
theorem c_3_7 : Nat.add (w 3 7) 1 = 2 := by kernel_rfl
theorem c_3_8 : Nat.add (w 3 8) 1 = 2 := by kernel_rfl
theorem c_3_9 : Nat.add (w 3 9) 1 = 2 := by kernel_rfl
theorem c_3_10 : Nat.add (w 3 10) 1 = 2 := by kernel_rfl
theorem c_3_11 : Nat.add (w 3 11) 1 = 2 := by kernel_rfl
theorem c_3_12 : Nat.add (w 3 12) 1 = 2 := by kernel_rfl
theorem c_3_13 : Nat.add (w 3 13) 1 = 2 := by kernel_rfl
theorem c_3_14 : Nat.add (w 3 14) 1 = 2 := by kernel_rfl
end Go.Proofs.YtaekfgbfpfecdaaGreat.VM
