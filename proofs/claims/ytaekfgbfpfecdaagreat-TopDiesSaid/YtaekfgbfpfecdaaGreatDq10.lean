/- TopDies on the machine: some of its cases; no conditions. -/
import Derived.Test.YtaekfgbfpfecdaaGreatDb
namespace Go.Proofs.YtaekfgbfpfecdaaGreat.VM
open Go R
set_option linter.unusedVariables false
set_option maxRecDepth 1000000
theorem c2x4x0 : Nat.add (w 2 4 0) 1 = 2 := by kernel_rfl
theorem c2x4x1 : Nat.add (w 2 4 1) 1 = 2 := by kernel_rfl
theorem c2x4x2 : Nat.add (w 2 4 2) 1 = 2 := by kernel_rfl
theorem c2x4x3 : Nat.add (w 2 4 3) 1 = 2 := by kernel_rfl
theorem c2x4x4 : Nat.add (w 2 4 4) 1 = 2 := by kernel_rfl
theorem c2x4x5 : Nat.add (w 2 4 5) 1 = 2 := by kernel_rfl
theorem c2x4x6 : Nat.add (w 2 4 6) 1 = 2 := by kernel_rfl
theorem c2x4x7 : Nat.add (w 2 4 7) 1 = 2 := by kernel_rfl
theorem c2x4x8 : Nat.add (w 2 4 8) 1 = 2 := by kernel_rfl
theorem c2x4x9 : Nat.add (w 2 4 9) 1 = 2 := by kernel_rfl
theorem c2x4x10 : Nat.add (w 2 4 10) 1 = 2 := by kernel_rfl
theorem c2x4x11 : Nat.add (w 2 4 11) 1 = 2 := by kernel_rfl
theorem c2x4x12 : Nat.add (w 2 4 12) 1 = 2 := by kernel_rfl
theorem c2x4x13 : Nat.add (w 2 4 13) 1 = 2 := by kernel_rfl
theorem c2x4x14 : Nat.add (w 2 4 14) 1 = 2 := by kernel_rfl
theorem c2x4x15 : Nat.add (w 2 4 15) 1 = 2 := by kernel_rfl
theorem c2x4x16 : Nat.add (w 2 4 16) 1 = 2 := by kernel_rfl
theorem c2x4x17 : Nat.add (w 2 4 17) 1 = 2 := by kernel_rfl
theorem c2x4x18 : Nat.add (w 2 4 18) 1 = 2 := by kernel_rfl
theorem c2x4x19 : Nat.add (w 2 4 19) 1 = 2 := by kernel_rfl
theorem c2x5x0 : Nat.add (w 2 5 0) 1 = 2 := by kernel_rfl
theorem c2x5x1 : Nat.add (w 2 5 1) 1 = 2 := by kernel_rfl
theorem c2x5x2 : Nat.add (w 2 5 2) 1 = 2 := by kernel_rfl
theorem c2x5x3 : Nat.add (w 2 5 3) 1 = 2 := by kernel_rfl
theorem c2x5x4 : Nat.add (w 2 5 4) 1 = 2 := by kernel_rfl
theorem c2x5x5 : Nat.add (w 2 5 5) 1 = 2 := by kernel_rfl
theorem c2x5x6 : Nat.add (w 2 5 6) 1 = 2 := by kernel_rfl
theorem c2x5x7 : Nat.add (w 2 5 7) 1 = 2 := by kernel_rfl
theorem c2x5x8 : Nat.add (w 2 5 8) 1 = 2 := by kernel_rfl
theorem c2x5x9 : Nat.add (w 2 5 9) 1 = 2 := by kernel_rfl
theorem c2x5x10 : Nat.add (w 2 5 10) 1 = 2 := by kernel_rfl
theorem c2x5x11 : Nat.add (w 2 5 11) 1 = 2 := by kernel_rfl
theorem c2x5x12 : Nat.add (w 2 5 12) 1 = 2 := by kernel_rfl
theorem c2x5x13 : Nat.add (w 2 5 13) 1 = 2 := by kernel_rfl
theorem c2x5x14 : Nat.add (w 2 5 14) 1 = 2 := by kernel_rfl
theorem c2x5x15 : Nat.add (w 2 5 15) 1 = 2 := by kernel_rfl
theorem c2x5x16 : Nat.add (w 2 5 16) 1 = 2 := by kernel_rfl
theorem c2x5x17 : Nat.add (w 2 5 17) 1 = 2 := by kernel_rfl
theorem c2x5x18 : Nat.add (w 2 5 18) 1 = 2 := by kernel_rfl
theorem c2x5x19 : Nat.add (w 2 5 19) 1 = 2 := by kernel_rfl
end Go.Proofs.YtaekfgbfpfecdaaGreat.VM
