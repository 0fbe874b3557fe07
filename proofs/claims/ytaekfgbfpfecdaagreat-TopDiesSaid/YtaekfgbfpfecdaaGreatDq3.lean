/- TopDies on the machine: some of its cases; no conditions. -/
import Derived.Test.YtaekfgbfpfecdaaGreatDb
namespace Go.Proofs.YtaekfgbfpfecdaaGreat.VM
open Go R
set_option linter.unusedVariables false
set_option maxRecDepth 1000000
theorem c0x6x0 : Nat.add (w 0 6 0) 1 = 2 := by kernel_rfl
theorem c0x6x1 : Nat.add (w 0 6 1) 1 = 2 := by kernel_rfl
theorem c0x6x2 : Nat.add (w 0 6 2) 1 = 2 := by kernel_rfl
theorem c0x6x3 : Nat.add (w 0 6 3) 1 = 2 := by kernel_rfl
theorem c0x6x4 : Nat.add (w 0 6 4) 1 = 2 := by kernel_rfl
theorem c0x6x5 : Nat.add (w 0 6 5) 1 = 2 := by kernel_rfl
theorem c0x6x6 : Nat.add (w 0 6 6) 1 = 2 := by kernel_rfl
theorem c0x6x7 : Nat.add (w 0 6 7) 1 = 2 := by kernel_rfl
theorem c0x6x8 : Nat.add (w 0 6 8) 1 = 2 := by kernel_rfl
theorem c0x6x9 : Nat.add (w 0 6 9) 1 = 2 := by kernel_rfl
theorem c0x6x10 : Nat.add (w 0 6 10) 1 = 2 := by kernel_rfl
theorem c0x6x11 : Nat.add (w 0 6 11) 1 = 2 := by kernel_rfl
theorem c0x6x12 : Nat.add (w 0 6 12) 1 = 2 := by kernel_rfl
theorem c0x6x13 : Nat.add (w 0 6 13) 1 = 2 := by kernel_rfl
theorem c0x6x14 : Nat.add (w 0 6 14) 1 = 2 := by kernel_rfl
theorem c0x6x15 : Nat.add (w 0 6 15) 1 = 2 := by kernel_rfl
theorem c0x6x16 : Nat.add (w 0 6 16) 1 = 2 := by kernel_rfl
theorem c0x6x17 : Nat.add (w 0 6 17) 1 = 2 := by kernel_rfl
theorem c0x6x18 : Nat.add (w 0 6 18) 1 = 2 := by kernel_rfl
theorem c0x6x19 : Nat.add (w 0 6 19) 1 = 2 := by kernel_rfl
theorem c0x7x0 : Nat.add (w 0 7 0) 1 = 2 := by kernel_rfl
theorem c0x7x1 : Nat.add (w 0 7 1) 1 = 2 := by kernel_rfl
theorem c0x7x2 : Nat.add (w 0 7 2) 1 = 2 := by kernel_rfl
theorem c0x7x3 : Nat.add (w 0 7 3) 1 = 2 := by kernel_rfl
theorem c0x7x4 : Nat.add (w 0 7 4) 1 = 2 := by kernel_rfl
theorem c0x7x5 : Nat.add (w 0 7 5) 1 = 2 := by kernel_rfl
theorem c0x7x6 : Nat.add (w 0 7 6) 1 = 2 := by kernel_rfl
theorem c0x7x7 : Nat.add (w 0 7 7) 1 = 2 := by kernel_rfl
theorem c0x7x8 : Nat.add (w 0 7 8) 1 = 2 := by kernel_rfl
theorem c0x7x9 : Nat.add (w 0 7 9) 1 = 2 := by kernel_rfl
theorem c0x7x10 : Nat.add (w 0 7 10) 1 = 2 := by kernel_rfl
theorem c0x7x11 : Nat.add (w 0 7 11) 1 = 2 := by kernel_rfl
theorem c0x7x12 : Nat.add (w 0 7 12) 1 = 2 := by kernel_rfl
theorem c0x7x13 : Nat.add (w 0 7 13) 1 = 2 := by kernel_rfl
theorem c0x7x14 : Nat.add (w 0 7 14) 1 = 2 := by kernel_rfl
theorem c0x7x15 : Nat.add (w 0 7 15) 1 = 2 := by kernel_rfl
theorem c0x7x16 : Nat.add (w 0 7 16) 1 = 2 := by kernel_rfl
theorem c0x7x17 : Nat.add (w 0 7 17) 1 = 2 := by kernel_rfl
theorem c0x7x18 : Nat.add (w 0 7 18) 1 = 2 := by kernel_rfl
theorem c0x7x19 : Nat.add (w 0 7 19) 1 = 2 := by kernel_rfl
end Go.Proofs.YtaekfgbfpfecdaaGreat.VM
