/- TopDies on the machine: some of its cases; no conditions. -/
import Derived.Test.YtaekfgbfpfecdaaGreatDb
namespace Go.Proofs.YtaekfgbfpfecdaaGreat.VM
open Go R
set_option linter.unusedVariables false
set_option maxRecDepth 1000000
theorem c0x0x0 : Nat.add (w 0 0 0) 1 = 2 := by kernel_rfl
theorem c0x0x1 : Nat.add (w 0 0 1) 1 = 2 := by kernel_rfl
theorem c0x0x2 : Nat.add (w 0 0 2) 1 = 2 := by kernel_rfl
theorem c0x0x3 : Nat.add (w 0 0 3) 1 = 2 := by kernel_rfl
theorem c0x0x4 : Nat.add (w 0 0 4) 1 = 2 := by kernel_rfl
theorem c0x0x5 : Nat.add (w 0 0 5) 1 = 2 := by kernel_rfl
theorem c0x0x6 : Nat.add (w 0 0 6) 1 = 2 := by kernel_rfl
theorem c0x0x7 : Nat.add (w 0 0 7) 1 = 2 := by kernel_rfl
theorem c0x0x8 : Nat.add (w 0 0 8) 1 = 2 := by kernel_rfl
theorem c0x0x9 : Nat.add (w 0 0 9) 1 = 2 := by kernel_rfl
theorem c0x0x10 : Nat.add (w 0 0 10) 1 = 2 := by kernel_rfl
theorem c0x0x11 : Nat.add (w 0 0 11) 1 = 2 := by kernel_rfl
theorem c0x0x12 : Nat.add (w 0 0 12) 1 = 2 := by kernel_rfl
theorem c0x0x13 : Nat.add (w 0 0 13) 1 = 2 := by kernel_rfl
theorem c0x0x14 : Nat.add (w 0 0 14) 1 = 2 := by kernel_rfl
theorem c0x0x15 : Nat.add (w 0 0 15) 1 = 2 := by kernel_rfl
theorem c0x0x16 : Nat.add (w 0 0 16) 1 = 2 := by kernel_rfl
theorem c0x0x17 : Nat.add (w 0 0 17) 1 = 2 := by kernel_rfl
theorem c0x0x18 : Nat.add (w 0 0 18) 1 = 2 := by kernel_rfl
theorem c0x0x19 : Nat.add (w 0 0 19) 1 = 2 := by kernel_rfl
theorem c0x1x0 : Nat.add (w 0 1 0) 1 = 2 := by kernel_rfl
theorem c0x1x1 : Nat.add (w 0 1 1) 1 = 2 := by kernel_rfl
theorem c0x1x2 : Nat.add (w 0 1 2) 1 = 2 := by kernel_rfl
theorem c0x1x3 : Nat.add (w 0 1 3) 1 = 2 := by kernel_rfl
theorem c0x1x4 : Nat.add (w 0 1 4) 1 = 2 := by kernel_rfl
theorem c0x1x5 : Nat.add (w 0 1 5) 1 = 2 := by kernel_rfl
theorem c0x1x6 : Nat.add (w 0 1 6) 1 = 2 := by kernel_rfl
theorem c0x1x7 : Nat.add (w 0 1 7) 1 = 2 := by kernel_rfl
theorem c0x1x8 : Nat.add (w 0 1 8) 1 = 2 := by kernel_rfl
theorem c0x1x9 : Nat.add (w 0 1 9) 1 = 2 := by kernel_rfl
theorem c0x1x10 : Nat.add (w 0 1 10) 1 = 2 := by kernel_rfl
theorem c0x1x11 : Nat.add (w 0 1 11) 1 = 2 := by kernel_rfl
theorem c0x1x12 : Nat.add (w 0 1 12) 1 = 2 := by kernel_rfl
theorem c0x1x13 : Nat.add (w 0 1 13) 1 = 2 := by kernel_rfl
theorem c0x1x14 : Nat.add (w 0 1 14) 1 = 2 := by kernel_rfl
theorem c0x1x15 : Nat.add (w 0 1 15) 1 = 2 := by kernel_rfl
theorem c0x1x16 : Nat.add (w 0 1 16) 1 = 2 := by kernel_rfl
theorem c0x1x17 : Nat.add (w 0 1 17) 1 = 2 := by kernel_rfl
theorem c0x1x18 : Nat.add (w 0 1 18) 1 = 2 := by kernel_rfl
theorem c0x1x19 : Nat.add (w 0 1 19) 1 = 2 := by kernel_rfl
end Go.Proofs.YtaekfgbfpfecdaaGreat.VM
