/- TopComesAgain on the machine: some of its cases; no conditions. -/
import Derived.Test.YtaekfgbfpfecdaaGreatCb
namespace Go.Proofs.YtaekfgbfpfecdaaGreat.VM
open Go R
set_option linter.unusedVariables false
set_option maxRecDepth 1000000
theorem c3x0 : Nat.add (w 3 0) 1 = 2 := by kernel_rfl
theorem c3x1 : Nat.add (w 3 1) 1 = 2 := by kernel_rfl
theorem c3x2 : Nat.add (w 3 2) 1 = 2 := by kernel_rfl
theorem c3x3 : Nat.add (w 3 3) 1 = 2 := by kernel_rfl
theorem c3x4 : Nat.add (w 3 4) 1 = 2 := by kernel_rfl
theorem c3x5 : Nat.add (w 3 5) 1 = 2 := by kernel_rfl
theorem c3x6 : Nat.add (w 3 6) 1 = 2 := by kernel_rfl
theorem c3x7 : Nat.add (w 3 7) 1 = 2 := by kernel_rfl
theorem c3x8 : Nat.add (w 3 8) 1 = 2 := by kernel_rfl
theorem c3x9 : Nat.add (w 3 9) 1 = 2 := by kernel_rfl
theorem c3x10 : Nat.add (w 3 10) 1 = 2 := by kernel_rfl
theorem c3x11 : Nat.add (w 3 11) 1 = 2 := by kernel_rfl
theorem c3x12 : Nat.add (w 3 12) 1 = 2 := by kernel_rfl
theorem c3x13 : Nat.add (w 3 13) 1 = 2 := by kernel_rfl
theorem c3x14 : Nat.add (w 3 14) 1 = 2 := by kernel_rfl
theorem c3x15 : Nat.add (w 3 15) 1 = 2 := by kernel_rfl
theorem c3x16 : Nat.add (w 3 16) 1 = 2 := by kernel_rfl
theorem c3x17 : Nat.add (w 3 17) 1 = 2 := by kernel_rfl
theorem c3x18 : Nat.add (w 3 18) 1 = 2 := by kernel_rfl
theorem c3x19 : Nat.add (w 3 19) 1 = 2 := by kernel_rfl
theorem c3x20 : Nat.add (w 3 20) 1 = 2 := by kernel_rfl
theorem c3x21 : Nat.add (w 3 21) 1 = 2 := by kernel_rfl
theorem c3x22 : Nat.add (w 3 22) 1 = 2 := by kernel_rfl
theorem c3x23 : Nat.add (w 3 23) 1 = 2 := by kernel_rfl
theorem c3x24 : Nat.add (w 3 24) 1 = 2 := by kernel_rfl
theorem c3x25 : Nat.add (w 3 25) 1 = 2 := by kernel_rfl
theorem c3x26 : Nat.add (w 3 26) 1 = 2 := by kernel_rfl
theorem c3x27 : Nat.add (w 3 27) 1 = 2 := by kernel_rfl
theorem c3x28 : Nat.add (w 3 28) 1 = 2 := by kernel_rfl
theorem c3x29 : Nat.add (w 3 29) 1 = 2 := by kernel_rfl
end Go.Proofs.YtaekfgbfpfecdaaGreat.VM
