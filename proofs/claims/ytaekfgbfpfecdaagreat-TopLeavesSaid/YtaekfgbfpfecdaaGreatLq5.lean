/- TopLeaves on the machine: some of its cases; no conditions. -/
import Derived.Test.YtaekfgbfpfecdaaGreatLb
namespace Go.Proofs.YtaekfgbfpfecdaaGreat.VM
open Go R
set_option linter.unusedVariables false
set_option maxRecDepth 1000000
theorem c6x5 : Nat.add (w 6 5) 1 = 2 := by kernel_rfl
theorem c6x6 : Nat.add (w 6 6) 1 = 2 := by kernel_rfl
theorem c6x7 : Nat.add (w 6 7) 1 = 2 := by kernel_rfl
theorem c6x8 : Nat.add (w 6 8) 1 = 2 := by kernel_rfl
theorem c6x9 : Nat.add (w 6 9) 1 = 2 := by kernel_rfl
theorem c6x10 : Nat.add (w 6 10) 1 = 2 := by kernel_rfl
theorem c6x11 : Nat.add (w 6 11) 1 = 2 := by kernel_rfl
theorem c6x12 : Nat.add (w 6 12) 1 = 2 := by kernel_rfl
theorem c6x13 : Nat.add (w 6 13) 1 = 2 := by kernel_rfl
theorem c6x14 : Nat.add (w 6 14) 1 = 2 := by kernel_rfl
theorem c6x15 : Nat.add (w 6 15) 1 = 2 := by kernel_rfl
theorem c6x16 : Nat.add (w 6 16) 1 = 2 := by kernel_rfl
theorem c6x17 : Nat.add (w 6 17) 1 = 2 := by kernel_rfl
theorem c6x18 : Nat.add (w 6 18) 1 = 2 := by kernel_rfl
theorem c6x19 : Nat.add (w 6 19) 1 = 2 := by kernel_rfl
theorem c7x0 : Nat.add (w 7 0) 1 = 2 := by kernel_rfl
theorem c7x1 : Nat.add (w 7 1) 1 = 2 := by kernel_rfl
theorem c7x2 : Nat.add (w 7 2) 1 = 2 := by kernel_rfl
theorem c7x3 : Nat.add (w 7 3) 1 = 2 := by kernel_rfl
theorem c7x4 : Nat.add (w 7 4) 1 = 2 := by kernel_rfl
theorem c7x5 : Nat.add (w 7 5) 1 = 2 := by kernel_rfl
theorem c7x6 : Nat.add (w 7 6) 1 = 2 := by kernel_rfl
theorem c7x7 : Nat.add (w 7 7) 1 = 2 := by kernel_rfl
theorem c7x8 : Nat.add (w 7 8) 1 = 2 := by kernel_rfl
theorem c7x9 : Nat.add (w 7 9) 1 = 2 := by kernel_rfl
end Go.Proofs.YtaekfgbfpfecdaaGreat.VM
