/- TopLeaves on the machine: some of its cases; no conditions. -/
import Derived.Test.YtaekfgbfpfecdaaGreatLb
namespace Go.Proofs.YtaekfgbfpfecdaaGreat.VM
open Go R
set_option linter.unusedVariables false
set_option maxRecDepth 1000000
theorem c5x0 : Nat.add (w 5 0) 1 = 2 := by kernel_rfl
theorem c5x1 : Nat.add (w 5 1) 1 = 2 := by kernel_rfl
theorem c5x2 : Nat.add (w 5 2) 1 = 2 := by kernel_rfl
theorem c5x3 : Nat.add (w 5 3) 1 = 2 := by kernel_rfl
theorem c5x4 : Nat.add (w 5 4) 1 = 2 := by kernel_rfl
theorem c5x5 : Nat.add (w 5 5) 1 = 2 := by kernel_rfl
theorem c5x6 : Nat.add (w 5 6) 1 = 2 := by kernel_rfl
theorem c5x7 : Nat.add (w 5 7) 1 = 2 := by kernel_rfl
theorem c5x8 : Nat.add (w 5 8) 1 = 2 := by kernel_rfl
theorem c5x9 : Nat.add (w 5 9) 1 = 2 := by kernel_rfl
theorem c5x10 : Nat.add (w 5 10) 1 = 2 := by kernel_rfl
theorem c5x11 : Nat.add (w 5 11) 1 = 2 := by kernel_rfl
theorem c5x12 : Nat.add (w 5 12) 1 = 2 := by kernel_rfl
theorem c5x13 : Nat.add (w 5 13) 1 = 2 := by kernel_rfl
theorem c5x14 : Nat.add (w 5 14) 1 = 2 := by kernel_rfl
theorem c5x15 : Nat.add (w 5 15) 1 = 2 := by kernel_rfl
theorem c5x16 : Nat.add (w 5 16) 1 = 2 := by kernel_rfl
theorem c5x17 : Nat.add (w 5 17) 1 = 2 := by kernel_rfl
theorem c5x18 : Nat.add (w 5 18) 1 = 2 := by kernel_rfl
theorem c5x19 : Nat.add (w 5 19) 1 = 2 := by kernel_rfl
theorem c6x0 : Nat.add (w 6 0) 1 = 2 := by kernel_rfl
theorem c6x1 : Nat.add (w 6 1) 1 = 2 := by kernel_rfl
theorem c6x2 : Nat.add (w 6 2) 1 = 2 := by kernel_rfl
theorem c6x3 : Nat.add (w 6 3) 1 = 2 := by kernel_rfl
theorem c6x4 : Nat.add (w 6 4) 1 = 2 := by kernel_rfl
end Go.Proofs.YtaekfgbfpfecdaaGreat.VM
