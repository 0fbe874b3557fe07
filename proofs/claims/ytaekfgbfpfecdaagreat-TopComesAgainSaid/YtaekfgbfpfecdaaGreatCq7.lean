/- TopComesAgain on the machine: some of its cases; no conditions. -/
import Derived.Test.YtaekfgbfpfecdaaGreatCb
namespace Go.Proofs.YtaekfgbfpfecdaaGreat.VM
open Go R
set_option linter.unusedVariables false
set_option maxRecDepth 1000000
theorem c3x30 : Nat.add (w 3 30) 1 = 2 := by kernel_rfl
theorem c3x31 : Nat.add (w 3 31) 1 = 2 := by kernel_rfl
theorem c3x32 : Nat.add (w 3 32) 1 = 2 := by kernel_rfl
theorem c3x33 : Nat.add (w 3 33) 1 = 2 := by kernel_rfl
theorem c3x34 : Nat.add (w 3 34) 1 = 2 := by kernel_rfl
theorem c3x35 : Nat.add (w 3 35) 1 = 2 := by kernel_rfl
theorem c3x36 : Nat.add (w 3 36) 1 = 2 := by kernel_rfl
theorem c3x37 : Nat.add (w 3 37) 1 = 2 := by kernel_rfl
theorem c3x38 : Nat.add (w 3 38) 1 = 2 := by kernel_rfl
theorem c3x39 : Nat.add (w 3 39) 1 = 2 := by kernel_rfl
theorem c3x40 : Nat.add (w 3 40) 1 = 2 := by kernel_rfl
theorem c3x41 : Nat.add (w 3 41) 1 = 2 := by kernel_rfl
theorem c3x42 : Nat.add (w 3 42) 1 = 2 := by kernel_rfl
theorem c3x43 : Nat.add (w 3 43) 1 = 2 := by kernel_rfl
theorem c3x44 : Nat.add (w 3 44) 1 = 2 := by kernel_rfl
theorem c3x45 : Nat.add (w 3 45) 1 = 2 := by kernel_rfl
theorem c3x46 : Nat.add (w 3 46) 1 = 2 := by kernel_rfl
theorem c3x47 : Nat.add (w 3 47) 1 = 2 := by kernel_rfl
theorem c3x48 : Nat.add (w 3 48) 1 = 2 := by kernel_rfl
theorem c3x49 : Nat.add (w 3 49) 1 = 2 := by kernel_rfl
theorem c3x50 : Nat.add (w 3 50) 1 = 2 := by kernel_rfl
theorem c3x51 : Nat.add (w 3 51) 1 = 2 := by kernel_rfl
theorem c3x52 : Nat.add (w 3 52) 1 = 2 := by kernel_rfl
theorem c3x53 : Nat.add (w 3 53) 1 = 2 := by kernel_rfl
theorem c3x54 : Nat.add (w 3 54) 1 = 2 := by kernel_rfl
theorem c3x55 : Nat.add (w 3 55) 1 = 2 := by kernel_rfl
theorem c3x56 : Nat.add (w 3 56) 1 = 2 := by kernel_rfl
theorem c3x57 : Nat.add (w 3 57) 1 = 2 := by kernel_rfl
theorem c3x58 : Nat.add (w 3 58) 1 = 2 := by kernel_rfl
theorem c3x59 : Nat.add (w 3 59) 1 = 2 := by kernel_rfl
end Go.Proofs.YtaekfgbfpfecdaaGreat.VM
