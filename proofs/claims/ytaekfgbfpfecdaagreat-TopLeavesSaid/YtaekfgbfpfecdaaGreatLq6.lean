/- TopLeaves on the machine: some of its cases; no conditions. -/
import Derived.Test.YtaekfgbfpfecdaaGreatLb
namespace Go.Proofs.YtaekfgbfpfecdaaGreat.VM
open Go R
set_option linter.unusedVariables false
set_option maxRecDepth 1000000
theorem c7x10 : Nat.add (w 7 10) 1 = 2 := by kernel_rfl
theorem c7x11 : Nat.add (w 7 11) 1 = 2 := by kernel_rfl
theorem c7x12 : Nat.add (w 7 12) 1 = 2 := by kernel_rfl
theorem c7x13 : Nat.add (w 7 13) 1 = 2 := by kernel_rfl
theorem c7x14 : Nat.add (w 7 14) 1 = 2 := by kernel_rfl
theorem c7x15 : Nat.add (w 7 15) 1 = 2 := by kernel_rfl
theorem c7x16 : Nat.add (w 7 16) 1 = 2 := by kernel_rfl
theorem c7x17 : Nat.add (w 7 17) 1 = 2 := by kernel_rfl
theorem c7x18 : Nat.add (w 7 18) 1 = 2 := by kernel_rfl
theorem c7x19 : Nat.add (w 7 19) 1 = 2 := by kernel_rfl
theorem c8x0 : Nat.add (w 8 0) 1 = 2 := by kernel_rfl
theorem c8x1 : Nat.add (w 8 1) 1 = 2 := by kernel_rfl
theorem c8x2 : Nat.add (w 8 2) 1 = 2 := by kernel_rfl
theorem c8x3 : Nat.add (w 8 3) 1 = 2 := by kernel_rfl
theorem c8x4 : Nat.add (w 8 4) 1 = 2 := by kernel_rfl
theorem c8x5 : Nat.add (w 8 5) 1 = 2 := by kernel_rfl
theorem c8x6 : Nat.add (w 8 6) 1 = 2 := by kernel_rfl
theorem c8x7 : Nat.add (w 8 7) 1 = 2 := by kernel_rfl
theorem c8x8 : Nat.add (w 8 8) 1 = 2 := by kernel_rfl
theorem c8x9 : Nat.add (w 8 9) 1 = 2 := by kernel_rfl
theorem c8x10 : Nat.add (w 8 10) 1 = 2 := by kernel_rfl
theorem c8x11 : Nat.add (w 8 11) 1 = 2 := by kernel_rfl
theorem c8x12 : Nat.add (w 8 12) 1 = 2 := by kernel_rfl
theorem c8x13 : Nat.add (w 8 13) 1 = 2 := by kernel_rfl
theorem c8x14 : Nat.add (w 8 14) 1 = 2 := by kernel_rfl
end Go.Proofs.YtaekfgbfpfecdaaGreat.VM
