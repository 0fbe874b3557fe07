/- TopLeaves on the machine: some of its cases; no conditions. -/
import Derived.Test.YtaekfgbfpfecdaaGreatLb
namespace Go.Proofs.YtaekfgbfpfecdaaGreat.VM
open Go R
set_option linter.unusedVariables false
set_option maxRecDepth 1000000
theorem c_6_5 : Nat.add (w 6 5) 1 = 2 := by kernel_rfl
theorem c_6_6 : Nat.add (w 6 6) 1 = 2 := by kernel_rfl
theorem c_6_7 : Nat.add (w 6 7) 1 = 2 := by kernel_rfl
theorem c_6_8 : Nat.add (w 6 8) 1 = 2 := by kernel_rfl
theorem c_6_9 : Nat.add (w 6 9) 1 = 2 := by kernel_rfl
theorem c_6_10 : Nat.add (w 6 10) 1 = 2 := by kernel_rfl
theorem c_6_11 : Nat.add (w 6 11) 1 = 2 := by kernel_rfl
theorem c_6_12 : Nat.add (w 6 12) 1 = 2 := by kernel_rfl
theorem c_6_13 : Nat.add (w 6 13) 1 = 2 := by kernel_rfl
theorem c_6_14 : Nat.add (w 6 14) 1 = 2 := by kernel_rfl
theorem c_6_15 : Nat.add (w 6 15) 1 = 2 := by kernel_rfl
theorem c_6_16 : Nat.add (w 6 16) 1 = 2 := by kernel_rfl
theorem c_6_17 : Nat.add (w 6 17) 1 = 2 := by kernel_rfl
theorem c_6_18 : Nat.add (w 6 18) 1 = 2 := by kernel_rfl
theorem c_6_19 : Nat.add (w 6 19) 1 = 2 := by kernel_rfl
theorem c_7_0 : Nat.add (w 7 0) 1 = 2 := by kernel_rfl
theorem c_7_1 : Nat.add (w 7 1) 1 = 2 := by kernel_rfl
theorem c_7_2 : Nat.add (w 7 2) 1 = 2 := by kernel_rfl
theorem c_7_3 : Nat.add (w 7 3) 1 = 2 := by kernel_rfl
theorem c_7_4 : Nat.add (w 7 4) 1 = 2 := by kernel_rfl
theorem c_7_5 : Nat.add (w 7 5) 1 = 2 := by kernel_rfl
theorem c_7_6 : Nat.add (w 7 6) 1 = 2 := by kernel_rfl
theorem c_7_7 : Nat.add (w 7 7) 1 = 2 := by kernel_rfl
theorem c_7_8 : Nat.add (w 7 8) 1 = 2 := by kernel_rfl
theorem c_7_9 : Nat.add (w 7 9) 1 = 2 := by kernel_rfl
end Go.Proofs.YtaekfgbfpfecdaaGreat.VM
