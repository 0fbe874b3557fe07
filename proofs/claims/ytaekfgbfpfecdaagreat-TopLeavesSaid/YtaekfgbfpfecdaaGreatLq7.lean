/- TopLeaves on the machine: some of its cases; no conditions. -/
import Derived.Test.YtaekfgbfpfecdaaGreatLb
namespace Go.Proofs.YtaekfgbfpfecdaaGreat.VM
open Go R
set_option linter.unusedVariables false
set_option maxRecDepth 1000000
theorem c_8_15 : Nat.add (w 8 15) 1 = 2 := by kernel_rfl
theorem c_8_16 : Nat.add (w 8 16) 1 = 2 := by kernel_rfl
theorem c_8_17 : Nat.add (w 8 17) 1 = 2 := by kernel_rfl
theorem c_8_18 : Nat.add (w 8 18) 1 = 2 := by kernel_rfl
theorem c_8_19 : Nat.add (w 8 19) 1 = 2 := by kernel_rfl
theorem c_9_0 : Nat.add (w 9 0) 1 = 2 := by kernel_rfl
theorem c_9_1 : Nat.add (w 9 1) 1 = 2 := by kernel_rfl
theorem c_9_2 : Nat.add (w 9 2) 1 = 2 := by kernel_rfl
theorem c_9_3 : Nat.add (w 9 3) 1 = 2 := by kernel_rfl
theorem c_9_4 : Nat.add (w 9 4) 1 = 2 := by kernel_rfl
theorem c_9_5 : Nat.add (w 9 5) 1 = 2 := by kernel_rfl
theorem c_9_6 : Nat.add (w 9 6) 1 = 2 := by kernel_rfl
theorem c_9_7 : Nat.add (w 9 7) 1 = 2 := by kernel_rfl
theorem c_9_8 : Nat.add (w 9 8) 1 = 2 := by kernel_rfl
theorem c_9_9 : Nat.add (w 9 9) 1 = 2 := by kernel_rfl
theorem c_9_10 : Nat.add (w 9 10) 1 = 2 := by kernel_rfl
theorem c_9_11 : Nat.add (w 9 11) 1 = 2 := by kernel_rfl
theorem c_9_12 : Nat.add (w 9 12) 1 = 2 := by kernel_rfl
theorem c_9_13 : Nat.add (w 9 13) 1 = 2 := by kernel_rfl
theorem c_9_14 : Nat.add (w 9 14) 1 = 2 := by kernel_rfl
theorem c_9_15 : Nat.add (w 9 15) 1 = 2 := by kernel_rfl
theorem c_9_16 : Nat.add (w 9 16) 1 = 2 := by kernel_rfl
theorem c_9_17 : Nat.add (w 9 17) 1 = 2 := by kernel_rfl
theorem c_9_18 : Nat.add (w 9 18) 1 = 2 := by kernel_rfl
theorem c_9_19 : Nat.add (w 9 19) 1 = 2 := by kernel_rfl
end Go.Proofs.YtaekfgbfpfecdaaGreat.VM
