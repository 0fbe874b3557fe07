/- TopLeaves on the machine: some of its cases; no conditions. -/
import Derived.Test.YtaekfgbfpfecdaaGreatLb
namespace Go.Proofs.YtaekfgbfpfecdaaGreat.VM
open Go R
set_option linter.unusedVariables false
set_option maxRecDepth 1000000
theorem c2x10 : Nat.add (w 2 10) 1 = 2 := by kernel_rfl
theorem c2x11 : Nat.add (w 2 11) 1 = 2 := by kernel_rfl
theorem c2x12 : Nat.add (w 2 12) 1 = 2 := by kernel_rfl
theorem c2x13 : Nat.add (w 2 13) 1 = 2 := by kernel_rfl
theorem c2x14 : Nat.add (w 2 14) 1 = 2 := by kernel_rfl
theorem c2x15 : Nat.add (w 2 15) 1 = 2 := by kernel_rfl
theorem c2x16 : Nat.add (w 2 16) 1 = 2 := by kernel_rfl
theorem c2x17 : Nat.add (w 2 17) 1 = 2 := by kernel_rfl
theorem c2x18 : Nat.add (w 2 18) 1 = 2 := by kernel_rfl
theorem c2x19 : Nat.add (w 2 19) 1 = 2 := by kernel_rfl
theorem c3x0 : Nat.add (w 3 0) 1 = 2 := by kernel_rfl
theorem c3x1 : Nat.add (w 3 1) 1 = 2 := by kernel_rfl
theorem c3x2 : Nat.add (w 3 2) 1 = 2 := by kernel_rfl
theorem c3x3 : Nat.add (w 3 3) 1 = 2 := by kernel_rfl
theorem c3x4 : Nat.add (w 3 4) 1 = 2 := by kernel_rfl
theorem c3x5 : Nat.add (w 3 5) 1 = 2 := by kernel_rfl
theorem c3x6 : Nat.add (w 3 6) 1 = 2 := by kernel_rfl
theorem c3x7 : Nat.add (w 3 7) 1 = 2 := by kernel_rfl
theorem c3x8 : Nat.add (w 3 8) 1 = 2 := by kernel_rfl
theorem c3x9 : Nat.add (w 3 9) 1 = 2 := by kernel_rfl
theorem c3x10 : Nat.add (w 3 10) 1 = 2 := by kernel_rfl
theorem c3x11 : Nat.add (w 3 11) 1 = 2 := by kernel_rfl
theorem c3x12 : Nat.add (w 3 12) 1 = 2 := by kernel_rfl
theorem c3x13 : Nat.add (w 3 13) 1 = 2 := by kernel_rfl
theorem c3x14 : Nat.add (w 3 14) 1 = 2 := by kernel_rfl
end Go.Proofs.YtaekfgbfpfecdaaGreat.VM
