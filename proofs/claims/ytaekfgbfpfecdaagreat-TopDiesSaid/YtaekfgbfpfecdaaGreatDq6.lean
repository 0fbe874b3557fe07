/- TopDies on the machine: some of its cases; no conditions. -/
import Derived.Test.YtaekfgbfpfecdaaGreatDb
namespace Go.Proofs.YtaekfgbfpfecdaaGreat.VM
open Go R
set_option linter.unusedVariables false
set_option maxRecDepth 1000000
theorem c1x4x0 : Nat.add (w 1 4 0) 1 = 2 := by kernel_rfl
theorem c1x4x1 : Nat.add (w 1 4 1) 1 = 2 := by kernel_rfl
theorem c1x4x2 : Nat.add (w 1 4 2) 1 = 2 := by kernel_rfl
theorem c1x4x3 : Nat.add (w 1 4 3) 1 = 2 := by kernel_rfl
theorem c1x4x4 : Nat.add (w 1 4 4) 1 = 2 := by kernel_rfl
theorem c1x4x5 : Nat.add (w 1 4 5) 1 = 2 := by kernel_rfl
theorem c1x4x6 : Nat.add (w 1 4 6) 1 = 2 := by kernel_rfl
theorem c1x4x7 : Nat.add (w 1 4 7) 1 = 2 := by kernel_rfl
theorem c1x4x8 : Nat.add (w 1 4 8) 1 = 2 := by kernel_rfl
theorem c1x4x9 : Nat.add (w 1 4 9) 1 = 2 := by kernel_rfl
theorem c1x4x10 : Nat.add (w 1 4 10) 1 = 2 := by kernel_rfl
theorem c1x4x11 : Nat.add (w 1 4 11) 1 = 2 := by kernel_rfl
theorem c1x4x12 : Nat.add (w 1 4 12) 1 = 2 := by kernel_rfl
theorem c1x4x13 : Nat.add (w 1 4 13) 1 = 2 := by kernel_rfl
theorem c1x4x14 : Nat.add (w 1 4 14) 1 = 2 := by kernel_rfl
theorem c1x4x15 : Nat.add (w 1 4 15) 1 = 2 := by kernel_rfl
theorem c1x4x16 : Nat.add (w 1 4 16) 1 = 2 := by kernel_rfl
theorem c1x4x17 : Nat.add (w 1 4 17) 1 = 2 := by kernel_rfl
theorem c1x4x18 : Nat.add (w 1 4 18) 1 = 2 := by kernel_rfl
theorem c1x4x19 : Nat.add (w 1 4 19) 1 = 2 := by kernel_rfl
theorem c1x5x0 : Nat.add (w 1 5 0) 1 = 2 := by kernel_rfl
theorem c1x5x1 : Nat.add (w 1 5 1) 1 = 2 := by kernel_rfl
theorem c1x5x2 : Nat.add (w 1 5 2) 1 = 2 := by kernel_rfl
theorem c1x5x3 : Nat.add (w 1 5 3) 1 = 2 := by kernel_rfl
theorem c1x5x4 : Nat.add (w 1 5 4) 1 = 2 := by kernel_rfl
theorem c1x5x5 : Nat.add (w 1 5 5) 1 = 2 := by kernel_rfl
theorem c1x5x6 : Nat.add (w 1 5 6) 1 = 2 := by kernel_rfl
theorem c1x5x7 : Nat.add (w 1 5 7) 1 = 2 := by kernel_rfl
theorem c1x5x8 : Nat.add (w 1 5 8) 1 = 2 := by kernel_rfl
theorem c1x5x9 : Nat.add (w 1 5 9) 1 = 2 := by kernel_rfl
theorem c1x5x10 : Nat.add (w 1 5 10) 1 = 2 := by kernel_rfl
theorem c1x5x11 : Nat.add (w 1 5 11) 1 = 2 := by kernel_rfl
theorem c1x5x12 : Nat.add (w 1 5 12) 1 = 2 := by kernel_rfl
theorem c1x5x13 : Nat.add (w 1 5 13) 1 = 2 := by kernel_rfl
theorem c1x5x14 : Nat.add (w 1 5 14) 1 = 2 := by kernel_rfl
theorem c1x5x15 : Nat.add (w 1 5 15) 1 = 2 := by kernel_rfl
theorem c1x5x16 : Nat.add (w 1 5 16) 1 = 2 := by kernel_rfl
theorem c1x5x17 : Nat.add (w 1 5 17) 1 = 2 := by kernel_rfl
theorem c1x5x18 : Nat.add (w 1 5 18) 1 = 2 := by kernel_rfl
theorem c1x5x19 : Nat.add (w 1 5 19) 1 = 2 := by kernel_rfl
end Go.Proofs.YtaekfgbfpfecdaaGreat.VM
