/- TopDies on the machine: some of its cases; no conditions. -/
import Derived.Test.YtaekfgbfpfecdaaGreatDb
namespace Go.Proofs.YtaekfgbfpfecdaaGreat.VM
open Go R
set_option linter.unusedVariables false
set_option maxRecDepth 1000000
theorem c3x6x0 : Nat.add (w 3 6 0) 1 = 2 := by kernel_rfl
theorem c3x6x1 : Nat.add (w 3 6 1) 1 = 2 := by kernel_rfl
theorem c3x6x2 : Nat.add (w 3 6 2) 1 = 2 := by kernel_rfl
theorem c3x6x3 : Nat.add (w 3 6 3) 1 = 2 := by kernel_rfl
theorem c3x6x4 : Nat.add (w 3 6 4) 1 = 2 := by kernel_rfl
theorem c3x6x5 : Nat.add (w 3 6 5) 1 = 2 := by kernel_rfl
theorem c3x6x6 : Nat.add (w 3 6 6) 1 = 2 := by kernel_rfl
theorem c3x6x7 : Nat.add (w 3 6 7) 1 = 2 := by kernel_rfl
theorem c3x6x8 : Nat.add (w 3 6 8) 1 = 2 := by kernel_rfl
theorem c3x6x9 : Nat.add (w 3 6 9) 1 = 2 := by kernel_rfl
theorem c3x6x10 : Nat.add (w 3 6 10) 1 = 2 := by kernel_rfl
theorem c3x6x11 : Nat.add (w 3 6 11) 1 = 2 := by kernel_rfl
theorem c3x6x12 : Nat.add (w 3 6 12) 1 = 2 := by kernel_rfl
theorem c3x6x13 : Nat.add (w 3 6 13) 1 = 2 := by kernel_rfl
theorem c3x6x14 : Nat.add (w 3 6 14) 1 = 2 := by kernel_rfl
theorem c3x6x15 : Nat.add (w 3 6 15) 1 = 2 := by kernel_rfl
theorem c3x6x16 : Nat.add (w 3 6 16) 1 = 2 := by kernel_rfl
theorem c3x6x17 : Nat.add (w 3 6 17) 1 = 2 := by kernel_rfl
theorem c3x6x18 : Nat.add (w 3 6 18) 1 = 2 := by kernel_rfl
theorem c3x6x19 : Nat.add (w 3 6 19) 1 = 2 := by kernel_rfl
theorem c3x7x0 : Nat.add (w 3 7 0) 1 = 2 := by kernel_rfl
theorem c3x7x1 : Nat.add (w 3 7 1) 1 = 2 := by kernel_rfl
theorem c3x7x2 : Nat.add (w 3 7 2) 1 = 2 := by kernel_rfl
theorem c3x7x3 : Nat.add (w 3 7 3) 1 = 2 := by kernel_rfl
theorem c3x7x4 : Nat.add (w 3 7 4) 1 = 2 := by kernel_rfl
theorem c3x7x5 : Nat.add (w 3 7 5) 1 = 2 := by kernel_rfl
theorem c3x7x6 : Nat.add (w 3 7 6) 1 = 2 := by kernel_rfl
theorem c3x7x7 : Nat.add (w 3 7 7) 1 = 2 := by kernel_rfl
theorem c3x7x8 : Nat.add (w 3 7 8) 1 = 2 := by kernel_rfl
theorem c3x7x9 : Nat.add (w 3 7 9) 1 = 2 := by kernel_rfl
theorem c3x7x10 : Nat.add (w 3 7 10) 1 = 2 := by kernel_rfl
theorem c3x7x11 : Nat.add (w 3 7 11) 1 = 2 := by kernel_rfl
theorem c3x7x12 : Nat.add (w 3 7 12) 1 = 2 := by kernel_rfl
theorem c3x7x13 : Nat.add (w 3 7 13) 1 = 2 := by kernel_rfl
theorem c3x7x14 : Nat.add (w 3 7 14) 1 = 2 := by kernel_rfl
theorem c3x7x15 : Nat.add (w 3 7 15) 1 = 2 := by kernel_rfl
theorem c3x7x16 : Nat.add (w 3 7 16) 1 = 2 := by kernel_rfl
theorem c3x7x17 : Nat.add (w 3 7 17) 1 = 2 := by kernel_rfl
theorem c3x7x18 : Nat.add (w 3 7 18) 1 = 2 := by kernel_rfl
theorem c3x7x19 : Nat.add (w 3 7 19) 1 = 2 := by kernel_rfl
end Go.Proofs.YtaekfgbfpfecdaaGreat.VM
