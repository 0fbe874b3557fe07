/- TopComesAgain on the machine: some of its cases; no conditions. -/
import Derived.Test.YtaekfgbfpfecdaaGreatCb
namespace Go.Proofs.YtaekfgbfpfecdaaGreat.VM
open Go R
set_option linter.unusedVariables false
set_option maxRecDepth 1000000
theorem c1x30 : Nat.add (w 1 30) 1 = 2 := by kernel_rfl
theorem c1x31 : Nat.add (w 1 31) 1 = 2 := by kernel_rfl
theorem c1x32 : Nat.add (w 1 32) 1 = 2 := by kernel_rfl
theorem c1x33 : Nat.add (w 1 33) 1 = 2 := by kernel_rfl
theorem c1x34 : Nat.add (w 1 34) 1 = 2 := by kernel_rfl
theorem c1x35 : Nat.add (w 1 35) 1 = 2 := by kernel_rfl
theorem c1x36 : Nat.add (w 1 36) 1 = 2 := by kernel_rfl
theorem c1x37 : Nat.add (w 1 37) 1 = 2 := by kernel_rfl
theorem c1x38 : Nat.add (w 1 38) 1 = 2 := by kernel_rfl
theorem c1x39 : Nat.add (w 1 39) 1 = 2 := by kernel_rfl
theorem c1x40 : Nat.add (w 1 40) 1 = 2 := by kernel_rfl
theorem c1x41 : Nat.add (w 1 41) 1 = 2 := by kernel_rfl
theorem c1x42 : Nat.add (w 1 42) 1 = 2 := by kernel_rfl
theorem c1x43 : Nat.add (w 1 43) 1 = 2 := by kernel_rfl
theorem c1x44 : Nat.add (w 1 44) 1 = 2 := by kernel_rfl
theorem c1x45 : Nat.add (w 1 45) 1 = 2 := by kernel_rfl
theorem c1x46 : Nat.add (w 1 46) 1 = 2 := by kernel_rfl
theorem c1x47 : Nat.add (w 1 47) 1 = 2 := by kernel_rfl
theorem c1x48 : Nat.add (w 1 48) 1 = 2 := by kernel_rfl
theorem c1x49 : Nat.add (w 1 49) 1 = 2 := by kernel_rfl
theorem c1x50 : Nat.add (w 1 50) 1 = 2 := by kernel_rfl
theorem c1x51 : Nat.add (w 1 51) 1 = 2 := by kernel_rfl
theorem c1x52 : Nat.add (w 1 52) 1 = 2 := by kernel_rfl
theorem c1x53 : Nat.add (w 1 53) 1 = 2 := by kernel_rfl
theorem c1x54 : Nat.add (w 1 54) 1 = 2 := by kernel_rfl
theorem c1x55 : Nat.add (w 1 55) 1 = 2 := by kernel_rfl
theorem c1x56 : Nat.add (w 1 56) 1 = 2 := by kernel_rfl
theorem c1x57 : Nat.add (w 1 57) 1 = 2 := by kernel_rfl
theorem c1x58 : Nat.add (w 1 58) 1 = 2 := by kernel_rfl
theorem c1x59 : Nat.add (w 1 59) 1 = 2 := by kernel_rfl
end Go.Proofs.YtaekfgbfpfecdaaGreat.VM
