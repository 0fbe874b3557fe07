/- TopComesAgain on the machine: some of its cases; no conditions. -/
import Derived.Test.YtaekfgbfpfecdaaGreatCb
namespace Go.Proofs.YtaekfgbfpfecdaaGreat.VM
open Go R
set_option linter.unusedVariables false
set_option maxRecDepth 1000000
theorem c1x0 : Nat.add (w 1 0) 1 = 2 := by kernel_rfl
theorem c1x1 : Nat.add (w 1 1) 1 = 2 := by kernel_rfl
theorem c1x2 : Nat.add (w 1 2) 1 = 2 := by kernel_rfl
theorem c1x3 : Nat.add (w 1 3) 1 = 2 := by kernel_rfl
theorem c1x4 : Nat.add (w 1 4) 1 = 2 := by kernel_rfl
theorem c1x5 : Nat.add (w 1 5) 1 = 2 := by kernel_rfl
theorem c1x6 : Nat.add (w 1 6) 1 = 2 := by kernel_rfl
theorem c1x7 : Nat.add (w 1 7) 1 = 2 := by kernel_rfl
theorem c1x8 : Nat.add (w 1 8) 1 = 2 := by kernel_rfl
theorem c1x9 : Nat.add (w 1 9) 1 = 2 := by kernel_rfl
theorem c1x10 : Nat.add (w 1 10) 1 = 2 := by kernel_rfl
theorem c1x11 : Nat.add (w 1 11) 1 = 2 := by kernel_rfl
theorem c1x12 : Nat.add (w 1 12) 1 = 2 := by kernel_rfl
theorem c1x13 : Nat.add (w 1 13) 1 = 2 := by kernel_rfl
theorem c1x14 : Nat.add (w 1 14) 1 = 2 := by kernel_rfl
theorem c1x15 : Nat.add (w 1 15) 1 = 2 := by kernel_rfl
theorem c1x16 : Nat.add (w 1 16) 1 = 2 := by kernel_rfl
theorem c1x17 : Nat.add (w 1 17) 1 = 2 := by kernel_rfl
theorem c1x18 : Nat.add (w 1 18) 1 = 2 := by kernel_rfl
theorem c1x19 : Nat.add (w 1 19) 1 = 2 := by kernel_rfl
theorem c1x20 : Nat.add (w 1 20) 1 = 2 := by kernel_rfl
theorem c1x21 : Nat.add (w 1 21) 1 = 2 := by kernel_rfl
theorem c1x22 : Nat.add (w 1 22) 1 = 2 := by kernel_rfl
theorem c1x23 : Nat.add (w 1 23) 1 = 2 := by kernel_rfl
theorem c1x24 : Nat.add (w 1 24) 1 = 2 := by kernel_rfl
theorem c1x25 : Nat.add (w 1 25) 1 = 2 := by kernel_rfl
theorem c1x26 : Nat.add (w 1 26) 1 = 2 := by kernel_rfl
theorem c1x27 : Nat.add (w 1 27) 1 = 2 := by kernel_rfl
theorem c1x28 : Nat.add (w 1 28) 1 = 2 := by kernel_rfl
theorem c1x29 : Nat.add (w 1 29) 1 = 2 := by kernel_rfl
end Go.Proofs.YtaekfgbfpfecdaaGreat.VM
