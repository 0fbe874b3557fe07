/- TopLeaves on the machine: some of its cases; no conditions. -/
import Derived.Test.YtaekfgbfpfecdaaGreatLb
namespace Go.Proofs.YtaekfgbfpfecdaaGreat.VM
open Go R
set_option linter.unusedVariables false
set_option maxRecDepth 1000000
theorem c0x0 : Nat.add (w 0 0) 1 = 2 := by kernel_rfl
theorem c0x1 : Nat.add (w 0 1) 1 = 2 := by kernel_rfl
theorem c0x2 : Nat.add (w 0 2) 1 = 2 := by kernel_rfl
theorem c0x3 : Nat.add (w 0 3) 1 = 2 := by kernel_rfl
theorem c0x4 : Nat.add (w 0 4) 1 = 2 := by kernel_rfl
theorem c0x5 : Nat.add (w 0 5) 1 = 2 := by kernel_rfl
theorem c0x6 : Nat.add (w 0 6) 1 = 2 := by kernel_rfl
theorem c0x7 : Nat.add (w 0 7) 1 = 2 := by kernel_rfl
theorem c0x8 : Nat.add (w 0 8) 1 = 2 := by kernel_rfl
theorem c0x9 : Nat.add (w 0 9) 1 = 2 := by kernel_rfl
theorem c0x10 : Nat.add (w 0 10) 1 = 2 := by kernel_rfl
theorem c0x11 : Nat.add (w 0 11) 1 = 2 := by kernel_rfl
theorem c0x12 : Nat.add (w 0 12) 1 = 2 := by kernel_rfl
theorem c0x13 : Nat.add (w 0 13) 1 = 2 := by kernel_rfl
theorem c0x14 : Nat.add (w 0 14) 1 = 2 := by kernel_rfl
theorem c0x15 : Nat.add (w 0 15) 1 = 2 := by kernel_rfl
theorem c0x16 : Nat.add (w 0 16) 1 = 2 := by kernel_rfl
theorem c0x17 : Nat.add (w 0 17) 1 = 2 := by kernel_rfl
theorem c0x18 : Nat.add (w 0 18) 1 = 2 := by kernel_rfl
theorem c0x19 : Nat.add (w 0 19) 1 = 2 := by kernel_rfl
theorem c1x0 : Nat.add (w 1 0) 1 = 2 := by kernel_rfl
theorem c1x1 : Nat.add (w 1 1) 1 = 2 := by kernel_rfl
theorem c1x2 : Nat.add (w 1 2) 1 = 2 := by kernel_rfl
theorem c1x3 : Nat.add (w 1 3) 1 = 2 := by kernel_rfl
theorem c1x4 : Nat.add (w 1 4) 1 = 2 := by kernel_rfl
end Go.Proofs.YtaekfgbfpfecdaaGreat.VM
