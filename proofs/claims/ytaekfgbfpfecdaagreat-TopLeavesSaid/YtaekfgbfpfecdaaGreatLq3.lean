/- TopLeaves on the machine: some of its cases; no conditions. -/
import Derived.Test.YtaekfgbfpfecdaaGreatLb
namespace Go.Proofs.YtaekfgbfpfecdaaGreat.VM
open Go R
set_option linter.unusedVariables false
set_option maxRecDepth 1000000
theorem c3x15 : Nat.add (w 3 15) 1 = 2 := by kernel_rfl
theorem c3x16 : Nat.add (w 3 16) 1 = 2 := by kernel_rfl
theorem c3x17 : Nat.add (w 3 17) 1 = 2 := by kernel_rfl
theorem c3x18 : Nat.add (w 3 18) 1 = 2 := by kernel_rfl
theorem c3x19 : Nat.add (w 3 19) 1 = 2 := by kernel_rfl
theorem c4x0 : Nat.add (w 4 0) 1 = 2 := by kernel_rfl
theorem c4x1 : Nat.add (w 4 1) 1 = 2 := by kernel_rfl
theorem c4x2 : Nat.add (w 4 2) 1 = 2 := by kernel_rfl
theorem c4x3 : Nat.add (w 4 3) 1 = 2 := by kernel_rfl
theorem c4x4 : Nat.add (w 4 4) 1 = 2 := by kernel_rfl
theorem c4x5 : Nat.add (w 4 5) 1 = 2 := by kernel_rfl
theorem c4x6 : Nat.add (w 4 6) 1 = 2 := by kernel_rfl
theorem c4x7 : Nat.add (w 4 7) 1 = 2 := by kernel_rfl
theorem c4x8 : Nat.add (w 4 8) 1 = 2 := by kernel_rfl
theorem c4x9 : Nat.add (w 4 9) 1 = 2 := by kernel_rfl
theorem c4x10 : Nat.add (w 4 10) 1 = 2 := by kernel_rfl
theorem c4x11 : Nat.add (w 4 11) 1 = 2 := by kernel_rfl
theorem c4x12 : Nat.add (w 4 12) 1 = 2 := by kernel_rfl
theorem c4x13 : Nat.add (w 4 13) 1 = 2 := by kernel_rfl
theorem c4x14 : Nat.add (w 4 14) 1 = 2 := by kernel_rfl
theorem c4x15 : Nat.add (w 4 15) 1 = 2 := by kernel_rfl
theorem c4x16 : Nat.add (w 4 16) 1 = 2 := by kernel_rfl
theorem c4x17 : Nat.add (w 4 17) 1 = 2 := by kernel_rfl
theorem c4x18 : Nat.add (w 4 18) 1 = 2 := by kernel_rfl
theorem c4x19 : Nat.add (w 4 19) 1 = 2 := by kernel_rfl
end Go.Proofs.YtaekfgbfpfecdaaGreat.VM
