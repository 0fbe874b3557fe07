/- TopComesAgain on the machine: thirty cases; no conditions. -/
import Derived.Test.YtaekfgbfpfecdaaGreatQb
namespace Go.Proofs.YtaekfgbfpfecdaaGreat.VM
open Go R
set_option linter.unusedVariables false
set_option maxRecDepth 1000000
theorem c_2_0 : Nat.add (bn (go5 2 0)) 1 = 2 := by kernel_rfl
theorem c_2_1 : Nat.add (bn (go5 2 1)) 1 = 2 := by kernel_rfl
theorem c_2_2 : Nat.add (bn (go5 2 2)) 1 = 2 := by kernel_rfl
theorem c_2_3 : Nat.add (bn (go5 2 3)) 1 = 2 := by kernel_rfl
theorem c_2_4 : Nat.add (bn (go5 2 4)) 1 = 2 := by kernel_rfl
theorem c_2_5 : Nat.add (bn (go5 2 5)) 1 = 2 := by kernel_rfl
theorem c_2_6 : Nat.add (bn (go5 2 6)) 1 = 2 := by kernel_rfl
theorem c_2_7 : Nat.add (bn (go5 2 7)) 1 = 2 := by kernel_rfl
theorem c_2_8 : Nat.add (bn (go5 2 8)) 1 = 2 := by kernel_rfl
theorem c_2_9 : Nat.add (bn (go5 2 9)) 1 = 2 := by kernel_rfl
theorem c_2_10 : Nat.add (bn (go5 2 10)) 1 = 2 := by kernel_rfl
theorem c_2_11 : Nat.add (bn (go5 2 11)) 1 = 2 := by kernel_rfl
theorem c_2_12 : Nat.add (bn (go5 2 12)) 1 = 2 := by kernel_rfl
theorem c_2_13 : Nat.add (bn (go5 2 13)) 1 = 2 := by kernel_rfl
theorem c_2_14 : Nat.add (bn (go5 2 14)) 1 = 2 := by kernel_rfl
theorem c_2_15 : Nat.add (bn (go5 2 15)) 1 = 2 := by kernel_rfl
theorem c_2_16 : Nat.add (bn (go5 2 16)) 1 = 2 := by kernel_rfl
theorem c_2_17 : Nat.add (bn (go5 2 17)) 1 = 2 := by kernel_rfl
theorem c_2_18 : Nat.add (bn (go5 2 18)) 1 = 2 := by kernel_rfl
theorem c_2_19 : Nat.add (bn (go5 2 19)) 1 = 2 := by kernel_rfl
theorem c_2_20 : Nat.add (bn (go5 2 20)) 1 = 2 := by kernel_rfl
theorem c_2_21 : Nat.add (bn (go5 2 21)) 1 = 2 := by kernel_rfl
theorem c_2_22 : Nat.add (bn (go5 2 22)) 1 = 2 := by kernel_rfl
theorem c_2_23 : Nat.add (bn (go5 2 23)) 1 = 2 := by kernel_rfl
theorem c_2_24 : Nat.add (bn (go5 2 24)) 1 = 2 := by kernel_rfl
theorem c_2_25 : Nat.add (bn (go5 2 25)) 1 = 2 := by kernel_rfl
theorem c_2_26 : Nat.add (bn (go5 2 26)) 1 = 2 := by kernel_rfl
theorem c_2_27 : Nat.add (bn (go5 2 27)) 1 = 2 := by kernel_rfl
theorem c_2_28 : Nat.add (bn (go5 2 28)) 1 = 2 := by kernel_rfl
theorem c_2_29 : Nat.add (bn (go5 2 29)) 1 = 2 := by kernel_rfl
end Go.Proofs.YtaekfgbfpfecdaaGreat.VM
