/- TopComesAgain on the machine: thirty cases; no conditions. -/
import Derived.Test.YtaekfgbfpfecdaaGreatQb
namespace Go.Proofs.YtaekfgbfpfecdaaGreat.VM
open Go R
set_option linter.unusedVariables false
set_option maxRecDepth 1000000
theorem c_1_0 : Nat.add (bn (go5 1 0)) 1 = 2 := by kernel_rfl
theorem c_1_1 : Nat.add (bn (go5 1 1)) 1 = 2 := by kernel_rfl
theorem c_1_2 : Nat.add (bn (go5 1 2)) 1 = 2 := by kernel_rfl
theorem c_1_3 : Nat.add (bn (go5 1 3)) 1 = 2 := by kernel_rfl
theorem c_1_4 : Nat.add (bn (go5 1 4)) 1 = 2 := by kernel_rfl
theorem c_1_5 : Nat.add (bn (go5 1 5)) 1 = 2 := by kernel_rfl
theorem c_1_6 : Nat.add (bn (go5 1 6)) 1 = 2 := by kernel_rfl
theorem c_1_7 : Nat.add (bn (go5 1 7)) 1 = 2 := by kernel_rfl
theorem c_1_8 : Nat.add (bn (go5 1 8)) 1 = 2 := by kernel_rfl
theorem c_1_9 : Nat.add (bn (go5 1 9)) 1 = 2 := by kernel_rfl
theorem c_1_10 : Nat.add (bn (go5 1 10)) 1 = 2 := by kernel_rfl
theorem c_1_11 : Nat.add (bn (go5 1 11)) 1 = 2 := by kernel_rfl
theorem c_1_12 : Nat.add (bn (go5 1 12)) 1 = 2 := by kernel_rfl
theorem c_1_13 : Nat.add (bn (go5 1 13)) 1 = 2 := by kernel_rfl
theorem c_1_14 : Nat.add (bn (go5 1 14)) 1 = 2 := by kernel_rfl
theorem c_1_15 : Nat.add (bn (go5 1 15)) 1 = 2 := by kernel_rfl
theorem c_1_16 : Nat.add (bn (go5 1 16)) 1 = 2 := by kernel_rfl
theorem c_1_17 : Nat.add (bn (go5 1 17)) 1 = 2 := by kernel_rfl
theorem c_1_18 : Nat.add (bn (go5 1 18)) 1 = 2 := by kernel_rfl
theorem c_1_19 : Nat.add (bn (go5 1 19)) 1 = 2 := by kernel_rfl
theorem c_1_20 : Nat.add (bn (go5 1 20)) 1 = 2 := by kernel_rfl
theorem c_1_21 : Nat.add (bn (go5 1 21)) 1 = 2 := by kernel_rfl
theorem c_1_22 : Nat.add (bn (go5 1 22)) 1 = 2 := by kernel_rfl
theorem c_1_23 : Nat.add (bn (go5 1 23)) 1 = 2 := by kernel_rfl
theorem c_1_24 : Nat.add (bn (go5 1 24)) 1 = 2 := by kernel_rfl
theorem c_1_25 : Nat.add (bn (go5 1 25)) 1 = 2 := by kernel_rfl
theorem c_1_26 : Nat.add (bn (go5 1 26)) 1 = 2 := by kernel_rfl
theorem c_1_27 : Nat.add (bn (go5 1 27)) 1 = 2 := by kernel_rfl
theorem c_1_28 : Nat.add (bn (go5 1 28)) 1 = 2 := by kernel_rfl
theorem c_1_29 : Nat.add (bn (go5 1 29)) 1 = 2 := by kernel_rfl
end Go.Proofs.YtaekfgbfpfecdaaGreat.VM
