/- TopComesAgain on the machine: some of its cases; no conditions. -/
import Derived.Test.YtaekfgbfpfecdaaGreatCb
namespace Go.Proofs.YtaekfgbfpfecdaaGreat.VM
open Go R
set_option linter.unusedVariables false
set_option maxRecDepth 1000000
theorem c2x0 : Nat.add (w 2 0) 1 = 2 := by kernel_rfl
theorem c2x1 : Nat.add (w 2 1) 1 = 2 := by kernel_rfl
theorem c2x2 : Nat.add (w 2 2) 1 = 2 := by kernel_rfl
theorem c2x3 : Nat.add (w 2 3) 1 = 2 := by kernel_rfl
theorem c2x4 : Nat.add (w 2 4) 1 = 2 := by kernel_rfl
theorem c2x5 : Nat.add (w 2 5) 1 = 2 := by kernel_rfl
theorem c2x6 : Nat.add (w 2 6) 1 = 2 := by kernel_rfl
theorem c2x7 : Nat.add (w 2 7) 1 = 2 := by kernel_rfl
theorem c2x8 : Nat.add (w 2 8) 1 = 2 := by kernel_rfl
theorem c2x9 : Nat.add (w 2 9) 1 = 2 := by kernel_rfl
theorem c2x10 : Nat.add (w 2 10) 1 = 2 := by kernel_rfl
theorem c2x11 : Nat.add (w 2 11) 1 = 2 := by kernel_rfl
theorem c2x12 : Nat.add (w 2 12) 1 = 2 := by kernel_rfl
theorem c2x13 : Nat.add (w 2 13) 1 = 2 := by kernel_rfl
theorem c2x14 : Nat.add (w 2 14) 1 = 2 := by kernel_rfl
theorem c2x15 : Nat.add (w 2 15) 1 = 2 := by kernel_rfl
theorem c2x16 : Nat.add (w 2 16) 1 = 2 := by kernel_rfl
theorem c2x17 : Nat.add (w 2 17) 1 = 2 := by kernel_rfl
theorem c2x18 : Nat.add (w 2 18) 1 = 2 := by kernel_rfl
theorem c2x19 : Nat.add (w 2 19) 1 = 2 := by kernel_rfl
theorem c2x20 : Nat.add (w 2 20) 1 = 2 := by kernel_rfl
theorem c2x21 : Nat.add (w 2 21) 1 = 2 := by kernel_rfl
theorem c2x22 : Nat.add (w 2 22) 1 = 2 := by kernel_rfl
theorem c2x23 : Nat.add (w 2 23) 1 = 2 := by kernel_rfl
theorem c2x24 : Nat.add (w 2 24) 1 = 2 := by kernel_rfl
theorem c2x25 : Nat.add (w 2 25) 1 = 2 := by kernel_rfl
theorem c2x26 : Nat.add (w 2 26) 1 = 2 := by kernel_rfl
theorem c2x27 : Nat.add (w 2 27) 1 = 2 := by kernel_rfl
theorem c2x28 : Nat.add (w 2 28) 1 = 2 := by kernel_rfl
theorem c2x29 : Nat.add (w 2 29) 1 = 2 := by kernel_rfl
end Go.Proofs.YtaekfgbfpfecdaaGreat.VM
