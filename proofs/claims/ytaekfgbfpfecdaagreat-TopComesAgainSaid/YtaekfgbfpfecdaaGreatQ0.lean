/- TopComesAgain on the machine: thirty cases; no conditions. -/
import Derived.Test.YtaekfgbfpfecdaaGreatQb
namespace Go.Proofs.YtaekfgbfpfecdaaGreat.VM
open Go R
set_option linter.unusedVariables false
set_option maxRecDepth 1000000
theorem c_0_0 : Nat.add (bn (go5 0 0)) 1 = 2 := by kernel_rfl
theorem c_0_1 : Nat.add (bn (go5 0 1)) 1 = 2 := by kernel_rfl
theorem c_0_2 : Nat.add (bn (go5 0 2)) 1 = 2 := by kernel_rfl
theorem c_0_3 : Nat.add (bn (go5 0 3)) 1 = 2 := by kernel_rfl
theorem c_0_4 : Nat.add (bn (go5 0 4)) 1 = 2 := by kernel_rfl
theorem c_0_5 : Nat.add (bn (go5 0 5)) 1 = 2 := by kernel_rfl
theorem c_0_6 : Nat.add (bn (go5 0 6)) 1 = 2 := by kernel_rfl
theorem c_0_7 : Nat.add (bn (go5 0 7)) 1 = 2 := by kernel_rfl
theorem c_0_8 : Nat.add (bn (go5 0 8)) 1 = 2 := by kernel_rfl
theorem c_0_9 : Nat.add (bn (go5 0 9)) 1 = 2 := by kernel_rfl
theorem c_0_10 : Nat.add (bn (go5 0 10)) 1 = 2 := by kernel_rfl
theorem c_0_11 : Nat.add (bn (go5 0 11)) 1 = 2 := by kernel_rfl
theorem c_0_12 : Nat.add (bn (go5 0 12)) 1 = 2 := by kernel_rfl
theorem c_0_13 : Nat.add (bn (go5 0 13)) 1 = 2 := by kernel_rfl
theorem c_0_14 : Nat.add (bn (go5 0 14)) 1 = 2 := by kernel_rfl
theorem c_0_15 : Nat.add (bn (go5 0 15)) 1 = 2 := by kernel_rfl
theorem c_0_16 : Nat.add (bn (go5 0 16)) 1 = 2 := by kernel_rfl
theorem c_0_17 : Nat.add (bn (go5 0 17)) 1 = 2 := by kernel_rfl
theorem c_0_18 : Nat.add (bn (go5 0 18)) 1 = 2 := by kernel_rfl
theorem c_0_19 : Nat.add (bn (go5 0 19)) 1 = 2 := by kernel_rfl
theorem c_0_20 : Nat.add (bn (go5 0 20)) 1 = 2 := by kernel_rfl
theorem c_0_21 : Nat.add (bn (go5 0 21)) 1 = 2 := by kernel_rfl
theorem c_0_22 : Nat.add (bn (go5 0 22)) 1 = 2 := by kernel_rfl
theorem c_0_23 : Nat.add (bn (go5 0 23)) 1 = 2 := by kernel_rfl
theorem c_0_24 : Nat.add (bn (go5 0 24)) 1 = 2 := by kernel_rfl
theorem c_0_25 : Nat.add (bn (go5 0 25)) 1 = 2 := by kernel_rfl
theorem c_0_26 : Nat.add (bn (go5 0 26)) 1 = 2 := by kernel_rfl
theorem c_0_27 : Nat.add (bn (go5 0 27)) 1 = 2 := by kernel_rfl
theorem c_0_28 : Nat.add (bn (go5 0 28)) 1 = 2 := by kernel_rfl
theorem c_0_29 : Nat.add (bn (go5 0 29)) 1 = 2 := by kernel_rfl
end Go.Proofs.YtaekfgbfpfecdaaGreat.VM
