/- TopLeaves on the machine: some of its cases; no conditions. -/
import Derived.Test.YtaekfgbfpfecdaaGreatLb
namespace Go.Proofs.YtaekfgbfpfecdaaGreat.VM
open Go R
set_option linter.unusedVariables false
set_option maxRecDepth 1000000
theorem c_5_0 : Nat.add (w 5 0) 1 = 2 := by kernel_rfl
theorem c_5_1 : Nat.add (w 5 1) 1 = 2 := by kernel_rfl
theorem c_5_2 : Nat.add (w 5 2) 1 = 2 := by kernel_rfl
theorem c_5_3 : Nat.add (w 5 3) 1 = 2 := by kernel_rfl
theorem c_5_4 : Nat.add (w 5 4) 1 = 2 := by kernel_rfl
theorem c_5_5 : Nat.add (w 5 5) 1 = 2 := by kernel_rfl
theorem c_5_6 : Nat.add (w 5 6) 1 = 2 := by kernel_rfl
theorem c_5_7 : Nat.add (w 5 7) 1 = 2 := by kernel_rfl
theorem c_5_8 : Nat.add (w 5 8) 1 = 2 := by kernel_rfl
theorem c_5_9 : Nat.add (w 5 9) 1 = 2 := by kernel_rfl
theorem c_5_10 : Nat.add (w 5 10) 1 = 2 := by kernel_rfl
theorem c_5_11 : Nat.add (w 5 11) 1 = 2 := by kernel_rfl
theorem c_5_12 : Nat.add (w 5 12) 1 = 2 := by kernel_rfl
theorem c_5_13 : Nat.add (w 5 13) 1 = 2 := by kernel_rfl
theorem c_5_14 : Nat.add (w 5 14) 1 = 2 := by kernel_rfl
theorem c_5_15 : Nat.add (w 5 15) 1 = 2 := by kernel_rfl
theorem c_5_16 : Nat.add (w 5 16) 1 = 2 := by kernel_rfl
theorem c_5_17 : Nat.add (w 5 17) 1 = 2 := by kernel_rfl
theorem c_5_18 : Nat.add (w 5 18) 1 = 2 := by kernel_rfl
theorem c_5_19 : Nat.add (w 5 19) 1 = 2 := by kernel_rfl
theorem c_6_0 : Nat.add (w 6 0) 1 = 2 := by kernel_rfl
theorem c_6_1 : Nat.add (w 6 1) 1 = 2 := by kernel_rfl
theorem c_6_2 : Nat.add (w 6 2) 1 = 2 := by kernel_rfl
theorem c_6_3 : Nat.add (w 6 3) 1 = 2 := by kernel_rfl
theorem c_6_4 : Nat.add (w 6 4) 1 = 2 := by kernel_rfl
end Go.Proofs.YtaekfgbfpfecdaaGreat.VM
