/- TopDies on the machine: some of its cases; no conditions. -/
import Derived.Test.YtaekfgbfpfecdaaGreatDb
namespace Go.Proofs.YtaekfgbfpfecdaaGreat.VM
open Go R
set_option linter.unusedVariables false
set_option maxRecDepth 1000000
theorem c3x2x0 : Nat.add (w 3 2 0) 1 = 2 := by kernel_rfl
theorem c3x2x1 : Nat.add (w 3 2 1) 1 = 2 := by kernel_rfl
theorem c3x2x2 : Nat.add (w 3 2 2) 1 = 2 := by kernel_rfl
theorem c3x2x3 : Nat.add (w 3 2 3) 1 = 2 := by kernel_rfl
theorem c3x2x4 : Nat.add (w 3 2 4) 1 = 2 := by kernel_rfl
theorem c3x2x5 : Nat.add (w 3 2 5) 1 = 2 := by kernel_rfl
theorem c3x2x6 : Nat.add (w 3 2 6) 1 = 2 := by kernel_rfl
theorem c3x2x7 : Nat.add (w 3 2 7) 1 = 2 := by kernel_rfl
theorem c3x2x8 : Nat.add (w 3 2 8) 1 = 2 := by kernel_rfl
theorem c3x2x9 : Nat.add (w 3 2 9) 1 = 2 := by kernel_rfl
theorem c3x2x10 : Nat.add (w 3 2 10) 1 = 2 := by kernel_rfl
theorem c3x2x11 : Nat.add (w 3 2 11) 1 = 2 := by kernel_rfl
theorem c3x2x12 : Nat.add (w 3 2 12) 1 = 2 := by kernel_rfl
theorem c3x2x13 : Nat.add (w 3 2 13) 1 = 2 := by kernel_rfl
theorem c3x2x14 : Nat.add (w 3 2 14) 1 = 2 := by kernel_rfl
theorem c3x2x15 : Nat.add (w 3 2 15) 1 = 2 := by kernel_rfl
theorem c3x2x16 : Nat.add (w 3 2 16) 1 = 2 := by kernel_rfl
theorem c3x2x17 : Nat.add (w 3 2 17) 1 = 2 := by kernel_rfl
theorem c3x2x18 : Nat.add (w 3 2 18) 1 = 2 := by kernel_rfl
theorem c3x2x19 : Nat.add (w 3 2 19) 1 = 2 := by kernel_rfl
theorem c3x3x0 : Nat.add (w 3 3 0) 1 = 2 := by kernel_rfl
theorem c3x3x1 : Nat.add (w 3 3 1) 1 = 2 := by kernel_rfl
theorem c3x3x2 : Nat.add (w 3 3 2) 1 = 2 := by kernel_rfl
theorem c3x3x3 : Nat.add (w 3 3 3) 1 = 2 := by kernel_rfl
theorem c3x3x4 : Nat.add (w 3 3 4) 1 = 2 := by kernel_rfl
theorem c3x3x5 : Nat.add (w 3 3 5) 1 = 2 := by kernel_rfl
theorem c3x3x6 : Nat.add (w 3 3 6) 1 = 2 := by kernel_rfl
theorem c3x3x7 : Nat.add (w 3 3 7) 1 = 2 := by kernel_rfl
theorem c3x3x8 : Nat.add (w 3 3 8) 1 = 2 := by kernel_rfl
theorem c3x3x9 : Nat.add (w 3 3 9) 1 = 2 := by kernel_rfl
theorem c3x3x10 : Nat.add (w 3 3 10) 1 = 2 := by kernel_rfl
theorem c3x3x11 : Nat.add (w 3 3 11) 1 = 2 := by kernel_rfl
theorem c3x3x12 : Nat.add (w 3 3 12) 1 = 2 := by kernel_rfl
theorem c3x3x13 : Nat.add (w 3 3 13) 1 = 2 := by kernel_rfl
theorem c3x3x14 : Nat.add (w 3 3 14) 1 = 2 := by kernel_rfl
theorem c3x3x15 : Nat.add (w 3 3 15) 1 = 2 := by kernel_rfl
theorem c3x3x16 : Nat.add (w 3 3 16) 1 = 2 := by kernel_rfl
theorem c3x3x17 : Nat.add (w 3 3 17) 1 = 2 := by kernel_rfl
theorem c3x3x18 : Nat.add (w 3 3 18) 1 = 2 := by kernel_rfl
theorem c3x3x19 : Nat.add (w 3 3 19) 1 = 2 := by kernel_rfl
end Go.Proofs.YtaekfgbfpfecdaaGreat.VM
