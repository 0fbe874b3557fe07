/- TopLeaves on the machine: some of its cases; no conditions. -/
import Derived.Test.YtaekfgbfpfecdaaGreatLb
namespace Go.Proofs.YtaekfgbfpfecdaaGreat.VM
open Go R
set_option linter.unusedVariables false
set_option maxRecDepth 1000000
theorem c1x5 : Nat.add (w 1 5) 1 = 2 := by kernel_rfl
theorem c1x6 : Nat.add (w 1 6) 1 = 2 := by kernel_rfl
theorem c1x7 : Nat.add (w 1 7) 1 = 2 := by kernel_rfl
theorem c1x8 : Nat.add (w 1 8) 1 = 2 := by kernel_rfl
theorem c1x9 : Nat.add (w 1 9) 1 = 2 := by kernel_rfl
theorem c1x10 : Nat.add (w 1 10) 1 = 2 := by kernel_rfl
theorem c1x11 : Nat.add (w 1 11) 1 = 2 := by kernel_rfl
theorem c1x12 : Nat.add (w 1 12) 1 = 2 := by kernel_rfl
theorem c1x13 : Nat.add (w 1 13) 1 = 2 := by kernel_rfl
theorem c1x14 : Nat.add (w 1 14) 1 = 2 := by kernel_rfl
theorem c1x15 : Nat.add (w 1 15) 1 = 2 := by kernel_rfl
theorem c1x16 : Nat.add (w 1 16) 1 = 2 := by kernel_rfl
theorem c1x17 : Nat.add (w 1 17) 1 = 2 := by kernel_rfl
theorem c1x18 : Nat.add (w 1 18) 1 = 2 := by kernel_rfl
theorem c1x19 : Nat.add (w 1 19) 1 = 2 := by kernel_rfl
theorem c2x0 : Nat.add (w 2 0) 1 = 2 := by kernel_rfl
theorem c2x1 : Nat.add (w 2 1) 1 = 2 := by kernel_rfl
theorem c2x2 : Nat.add (w 2 2) 1 = 2 := by kernel_rfl
theorem c2x3 : Nat.add (w 2 3) 1 = 2 := by kernel_rfl
theorem c2x4 : Nat.add (w 2 4) 1 = 2 := by kernel_rfl
theorem c2x5 : Nat.add (w 2 5) 1 = 2 := by kernel_rfl
theorem c2x6 : Nat.add (w 2 6) 1 = 2 := by kernel_rfl
theorem c2x7 : Nat.add (w 2 7) 1 = 2 := by kernel_rfl
theorem c2x8 : Nat.add (w 2 8) 1 = 2 := by kernel_rfl
theorem c2x9 : Nat.add (w 2 9) 1 = 2 := by kernel_rfl
end Go.Proofs.YtaekfgbfpfecdaaGreat.VM
