/- TopComesAgain on the machine: some of its cases; no conditions. -/
import Derived.Test.YtaekfgbfpfecdaaGreatCb
namespace Go.Proofs.YtaekfgbfpfecdaaGreat.VM
open Go R
set_option linter.unusedVariables false
set_option maxRecDepth 1000000
theorem c2x30 : Nat.add (w 2 30) 1 = 2 := by kernel_rfl
theorem c2x31 : Nat.add (w 2 31) 1 = 2 := by kernel_rfl
theorem c2x32 : Nat.add (w 2 32) 1 = 2 := by kernel_rfl
theorem c2x33 : Nat.add (w 2 33) 1 = 2 := by kernel_rfl
theorem c2x34 : Nat.add (w 2 34) 1 = 2 := by kernel_rfl
theorem c2x35 : Nat.add (w 2 35) 1 = 2 := by kernel_rfl
theorem c2x36 : Nat.add (w 2 36) 1 = 2 := by kernel_rfl
theorem c2x37 : Nat.add (w 2 37) 1 = 2 := by kernel_rfl
theorem c2x38 : Nat.add (w 2 38) 1 = 2 := by kernel_rfl
theorem c2x39 : Nat.add (w 2 39) 1 = 2 := by kernel_rfl
theorem c2x40 : Nat.add (w 2 40) 1 = 2 := by kernel_rfl
theorem c2x41 : Nat.add (w 2 41) 1 = 2 := by kernel_rfl
theorem c2x42 : Nat.add (w 2 42) 1 = 2 := by kernel_rfl
theorem c2x43 : Nat.add (w 2 43) 1 = 2 := by kernel_rfl
theorem c2x44 : Nat.add (w 2 44) 1 = 2 := by kernel_rfl
theorem c2x45 : Nat.add (w 2 45) 1 = 2 := by kernel_rfl
theorem c2x46 : Nat.add (w 2 46) 1 = 2 := by kernel_rfl
theorem c2x47 : Nat.add (w 2 47) 1 = 2 := by kernel_rfl
theorem c2x48 : Nat.add (w 2 48) 1 = 2 := by kernel_rfl
theorem c2x49 : Nat.add (w 2 49) 1 = 2 := by kernel_rfl
theorem c2x50 : Nat.add (w 2 50) 1 = 2 := by kernel_rfl
theorem c2x51 : Nat.add (w 2 51) 1 = 2 := by kernel_rfl
theorem c2x52 : Nat.add (w 2 52) 1 = 2 := by kernel_rfl
theorem c2x53 : Nat.add (w 2 53) 1 = 2 := by kernel_rfl
theorem c2x54 : Nat.add (w 2 54) 1 = 2 := by kernel_rfl
theorem c2x55 : Nat.add (w 2 55) 1 = 2 := by kernel_rfl
theorem c2x56 : Nat.add (w 2 56) 1 = 2 := by kernel_rfl
theorem c2x57 : Nat.add (w 2 57) 1 = 2 := by kernel_rfl
theorem c2x58 : Nat.add (w 2 58) 1 = 2 := by kernel_rfl
theorem c2x59 : Nat.add (w 2 59) 1 = 2 := by kernel_rfl
end Go.Proofs.YtaekfgbfpfecdaaGreat.VM
