/- TopComesAgain on the machine: some of its cases; no conditions. -/
import Derived.Test.YtaekfgbfpfecdaaGreatCb
namespace Go.Proofs.YtaekfgbfpfecdaaGreat.VM
open Go R
set_option linter.unusedVariables false
set_option maxRecDepth 1000000
theorem c0x30 : Nat.add (w 0 30) 1 = 2 := by kernel_rfl
theorem c0x31 : Nat.add (w 0 31) 1 = 2 := by kernel_rfl
theorem c0x32 : Nat.add (w 0 32) 1 = 2 := by kernel_rfl
theorem c0x33 : Nat.add (w 0 33) 1 = 2 := by kernel_rfl
theorem c0x34 : Nat.add (w 0 34) 1 = 2 := by kernel_rfl
theorem c0x35 : Nat.add (w 0 35) 1 = 2 := by kernel_rfl
theorem c0x36 : Nat.add (w 0 36) 1 = 2 := by kernel_rfl
theorem c0x37 : Nat.add (w 0 37) 1 = 2 := by kernel_rfl
theorem c0x38 : Nat.add (w 0 38) 1 = 2 := by kernel_rfl
theorem c0x39 : Nat.add (w 0 39) 1 = 2 := by kernel_rfl
theorem c0x40 : Nat.add (w 0 40) 1 = 2 := by kernel_rfl
theorem c0x41 : Nat.add (w 0 41) 1 = 2 := by kernel_rfl
theorem c0x42 : Nat.add (w 0 42) 1 = 2 := by kernel_rfl
theorem c0x43 : Nat.add (w 0 43) 1 = 2 := by kernel_rfl
theorem c0x44 : Nat.add (w 0 44) 1 = 2 := by kernel_rfl
theorem c0x45 : Nat.add (w 0 45) 1 = 2 := by kernel_rfl
theorem c0x46 : Nat.add (w 0 46) 1 = 2 := by kernel_rfl
theorem c0x47 : Nat.add (w 0 47) 1 = 2 := by kernel_rfl
theorem c0x48 : Nat.add (w 0 48) 1 = 2 := by kernel_rfl
theorem c0x49 : Nat.add (w 0 49) 1 = 2 := by kernel_rfl
theorem c0x50 : Nat.add (w 0 50) 1 = 2 := by kernel_rfl
theorem c0x51 : Nat.add (w 0 51) 1 = 2 := by kernel_rfl
theorem c0x52 : Nat.add (w 0 52) 1 = 2 := by kernel_rfl
theorem c0x53 : Nat.add (w 0 53) 1 = 2 := by kernel_rfl
theorem c0x54 : Nat.add (w 0 54) 1 = 2 := by kernel_rfl
theorem c0x55 : Nat.add (w 0 55) 1 = 2 := by kernel_rfl
theorem c0x56 : Nat.add (w 0 56) 1 = 2 := by kernel_rfl
theorem c0x57 : Nat.add (w 0 57) 1 = 2 := by kernel_rfl
theorem c0x58 : Nat.add (w 0 58) 1 = 2 := by kernel_rfl
theorem c0x59 : Nat.add (w 0 59) 1 = 2 := by kernel_rfl
end Go.Proofs.YtaekfgbfpfecdaaGreat.VM
