/- TopLeaves on the machine: some of its cases; no conditions. -/
import Derived.Test.YtaekfgbfpfecdaaGreatLb
namespace Go.Proofs.YtaekfgbfpfecdaaGreat.VM
open Go R
set_option linter.unusedVariables false
set_option maxRecDepth 1000000
theorem c8x15 : Nat.add (w 8 15) 1 = 2 := by kernel_rfl
theorem c8x16 : Nat.add (w 8 16) 1 = 2 := by kernel_rfl
theorem c8x17 : Nat.add (w 8 17) 1 = 2 := by kernel_rfl
theorem c8x18 : Nat.add (w 8 18) 1 = 2 := by kernel_rfl
theorem c8x19 : Nat.add (w 8 19) 1 = 2 := by kernel_rfl
theorem c9x0 : Nat.add (w 9 0) 1 = 2 := by kernel_rfl
theorem c9x1 : Nat.add (w 9 1) 1 = 2 := by kernel_rfl
theorem c9x2 : Nat.add (w 9 2) 1 = 2 := by kernel_rfl
theorem c9x3 : Nat.add (w 9 3) 1 = 2 := by kernel_rfl
theorem c9x4 : Nat.add (w 9 4) 1 = 2 := by kernel_rfl
theorem c9x5 : Nat.add (w 9 5) 1 = 2 := by kernel_rfl
theorem c9x6 : Nat.add (w 9 6) 1 = 2 := by kernel_rfl
theorem c9x7 : Nat.add (w 9 7) 1 = 2 := by kernel_rfl
theorem c9x8 : Nat.add (w 9 8) 1 = 2 := by kernel_rfl
theorem c9x9 : Nat.add (w 9 9) 1 = 2 := by kernel_rfl
theorem c9x10 : Nat.add (w 9 10) 1 = 2 := by kernel_rfl
theorem c9x11 : Nat.add (w 9 11) 1 = 2 := by kernel_rfl
theorem c9x12 : Nat.add (w 9 12) 1 = 2 := by kernel_rfl
theorem c9x13 : Nat.add (w 9 13) 1 = 2 := by kernel_rfl
theorem c9x14 : Nat.add (w 9 14) 1 = 2 := by kernel_rfl
theorem c9x15 : Nat.add (w 9 15) 1 = 2 := by kernel_rfl
theorem c9x16 : Nat.add (w 9 16) 1 = 2 := by kernel_rfl
theorem c9x17 : Nat.add (w 9 17) 1 = 2 := by kernel_rfl
theorem c9x18 : Nat.add (w 9 18) 1 = 2 := by kernel_rfl
theorem c9x19 : Nat.add (w 9 19) 1 = 2 := by kernel_rfl
end Go.Proofs.YtaekfgbfpfecdaaGreat.VM
