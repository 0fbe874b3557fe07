/- TopLeaves on the machine: some of its cases; no conditions. -/
import Derived.Test.YtaekfgbfpfecdaaGreatLb
namespace Go.Proofs.YtaekfgbfpfecdaaGreat.VM
open Go R
set_option linter.unusedVariables false
set_option maxRecDepth 1000000
theorem c_3_15 : Nat.add (w 3 15) 1 = 2 := by kernel_rfl
theorem c_3_16 : Nat.add (w 3 16) 1 = 2 := by kernel_rfl
theorem c_3_17 : Nat.add (w 3 17) 1 = 2 := by kernel_rfl
theorem c_3_18 : Nat.add (w 3 18) 1 = 2 := by kernel_rfl
theorem c_3_19 : Nat.add (w 3 19) 1 = 2 := by kernel_rfl
theorem c_4_0 : Nat.add (w 4 0) 1 = 2 := by kernel_rfl
theorem c_4_1 : Nat.add (w 4 1) 1 = 2 := by kernel_rfl
theorem c_4_2 : Nat.add (w 4 2) 1 = 2 := by kernel_rfl
theorem c_4_3 : Nat.add (w 4 3) 1 = 2 := by kernel_rfl
theorem c_4_4 : Nat.add (w 4 4) 1 = 2 := by kernel_rfl
theorem c_4_5 : Nat.add (w 4 5) 1 = 2 := by kernel_rfl
theorem c_4_6 : Nat.add (w 4 6) 1 = 2 := by kernel_rfl
theorem c_4_7 : Nat.add (w 4 7) 1 = 2 := by kernel_rfl
theorem c_4_8 : Nat.add (w 4 8) 1 = 2 := by kernel_rfl
theorem c_4_9 : Nat.add (w 4 9) 1 = 2 := by kernel_rfl
theorem c_4_10 : Nat.add (w 4 10) 1 = 2 := by kernel_rfl
theorem c_4_11 : Nat.add (w 4 11) 1 = 2 := by kernel_rfl
theorem c_4_12 : Nat.add (w 4 12) 1 = 2 := by kernel_rfl
theorem c_4_13 : Nat.add (w 4 13) 1 = 2 := by kernel_rfl
theorem c_4_14 : Nat.add (w 4 14) 1 = 2 := by kernel_rfl
theorem c_4_15 : Nat.add (w 4 15) 1 = 2 := by kernel_rfl
theorem c_4_16 : Nat.add (w 4 16) 1 = 2 := by kernel_rfl
theorem c_4_17 : Nat.add (w 4 17) 1 = 2 := by kernel_rfl
theorem c_4_18 : Nat.add (w 4 18) 1 = 2 := by kernel_rfl
theorem c_4_19 : Nat.add (w 4 19) 1 = 2 := by kernel_rfl
end Go.Proofs.YtaekfgbfpfecdaaGreat.VM
