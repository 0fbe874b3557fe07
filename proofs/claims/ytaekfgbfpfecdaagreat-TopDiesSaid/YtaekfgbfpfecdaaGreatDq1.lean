/- TopDies on the machine: some of its cases; no conditions. -/
import Derived.Test.YtaekfgbfpfecdaaGreatDb
namespace Go.Proofs.YtaekfgbfpfecdaaGreat.VM
open Go R
set_option linter.unusedVariables false
set_option maxRecDepth 1000000
theorem c0x2x0 : Nat.add (w 0 2 0) 1 = 2 := by kernel_rfl
theorem c0x2x1 : Nat.add (w 0 2 1) 1 = 2 := by kernel_rfl
theorem c0x2x2 : Nat.add (w 0 2 2) 1 = 2 := by kernel_rfl
theorem c0x2x3 : Nat.add (w 0 2 3) 1 = 2 := by kernel_rfl
theorem c0x2x4 : Nat.add (w 0 2 4) 1 = 2 := by kernel_rfl
theorem c0x2x5 : Nat.add (w 0 2 5) 1 = 2 := by kernel_rfl
theorem c0x2x6 : Nat.add (w 0 2 6) 1 = 2 := by kernel_rfl
theorem c0x2x7 : Nat.add (w 0 2 7) 1 = 2 := by kernel_rfl
theorem c0x2x8 : Nat.add (w 0 2 8) 1 = 2 := by kernel_rfl
theorem c0x2x9 : Nat.add (w 0 2 9) 1 = 2 := by kernel_rfl
theorem c0x2x10 : Nat.add (w 0 2 10) 1 = 2 := by kernel_rfl
theorem c0x2x11 : Nat.add (w 0 2 11) 1 = 2 := by kernel_rfl
theorem c0x2x12 : Nat.add (w 0 2 12) 1 = 2 := by kernel_rfl
theorem c0x2x13 : Nat.add (w 0 2 13) 1 = 2 := by kernel_rfl
theorem c0x2x14 : Nat.add (w 0 2 14) 1 = 2 := by kernel_rfl
theorem c0x2x15 : Nat.add (w 0 2 15) 1 = 2 := by kernel_rfl
theorem c0x2x16 : Nat.add (w 0 2 16) 1 = 2 := by kernel_rfl
theorem c0x2x17 : Nat.add (w 0 2 17) 1 = 2 := by kernel_rfl
theorem c0x2x18 : Nat.add (w 0 2 18) 1 = 2 := by kernel_rfl
theorem c0x2x19 : Nat.add (w 0 2 19) 1 = 2 := by kernel_rfl
theorem c0x3x0 : Nat.add (w 0 3 0) 1 = 2 := by kernel_rfl
theorem c0x3x1 : Nat.add (w 0 3 1) 1 = 2 := by kernel_rfl
theorem c0x3x2 : Nat.add (w 0 3 2) 1 = 2 := by kernel_rfl
theorem c0x3x3 : Nat.add (w 0 3 3) 1 = 2 := by kernel_rfl
theorem c0x3x4 : Nat.add (w 0 3 4) 1 = 2 := by kernel_rfl
theorem c0x3x5 : Nat.add (w 0 3 5) 1 = 2 := by kernel_rfl
theorem c0x3x6 : Nat.add (w 0 3 6) 1 = 2 := by kernel_rfl
theorem c0x3x7 : Nat.add (w 0 3 7) 1 = 2 := by kernel_rfl
theorem c0x3x8 : Nat.add (w 0 3 8) 1 = 2 := by kernel_rfl
theorem c0x3x9 : Nat.add (w 0 3 9) 1 = 2 := by kernel_rfl
theorem c0x3x10 : Nat.add (w 0 3 10) 1 = 2 := by kernel_rfl
theorem c0x3x11 : Nat.add (w 0 3 11) 1 = 2 := by kernel_rfl
theorem c0x3x12 : Nat.add (w 0 3 12) 1 = 2 := by kernel_rfl
theorem c0x3x13 : Nat.add (w 0 3 13) 1 = 2 := by kernel_rfl
theorem c0x3x14 : Nat.add (w 0 3 14) 1 = 2 := by kernel_rfl
theorem c0x3x15 : Nat.add (w 0 3 15) 1 = 2 := by kernel_rfl
theorem c0x3x16 : Nat.add (w 0 3 16) 1 = 2 := by kernel_rfl
theorem c0x3x17 : Nat.add (w 0 3 17) 1 = 2 := by kernel_rfl
theorem c0x3x18 : Nat.add (w 0 3 18) 1 = 2 := by kernel_rfl
theorem c0x3x19 : Nat.add (w 0 3 19) 1 = 2 := by kernel_rfl
end Go.Proofs.YtaekfgbfpfecdaaGreat.VM
