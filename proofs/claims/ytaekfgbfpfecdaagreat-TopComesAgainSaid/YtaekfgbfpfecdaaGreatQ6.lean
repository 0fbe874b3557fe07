/- TopComesAgain on the machine: thirty cases; no conditions. -/
import Derived.Test.YtaekfgbfpfecdaaGreatQb
namespace Go.Proofs.YtaekfgbfpfecdaaGreat.VM
open Go R
set_option linter.unusedVariables false
set_option maxRecDepth 1000000
theorem c_3_0 : Nat.add (bn (go5 3 0)) 1 = 2 := by kernel_rfl
theorem c_3_1 : Nat.add (bn (go5 3 1)) 1 = 2 := by kernel_rfl
theorem c_3_2 : Nat.add (bn (go5 3 2)) 1 = 2 := by kernel_rfl
theorem c_3_3 : Nat.add (bn (go5 3 3)) 1 = 2 := by kernel_rfl
theorem c_3_4 : Nat.add (bn (go5 3 4)) 1 = 2 := by kernel_rfl
theorem c_3_5 : Nat.add (bn (go5 3 5)) 1 = 2 := by kernel_rfl
theorem c_3_6 : Nat.add (bn (go5 3 6)) 1 = 2 := by kernel_rfl
theorem c_3_7 : Nat.add (bn (go5 3 7)) 1 = 2 := by kernel_rfl
theorem c_3_8 : Nat.add (bn (go5 3 8)) 1 = 2 := by kernel_rfl
theorem c_3_9 : Nat.add (bn (go5 3 9)) 1 = 2 := by kernel_rfl
theorem c_3_10 : Nat.add (bn (go5 3 10)) 1 = 2 := by kernel_rfl
theorem c_3_11 : Nat.add (bn (go5 3 11)) 1 = 2 := by kernel_rfl
theorem c_3_12 : Nat.add (bn (go5 3 12)) 1 = 2 := by kernel_rfl
theorem c_3_13 : Nat.add (bn (go5 3 13)) 1 = 2 := by kernel_rfl
theorem c_3_14 : Nat.add (bn (go5 3 14)) 1 = 2 := by kernel_rfl
theorem c_3_15 : Nat.add (bn (go5 3 15)) 1 = 2 := by kernel_rfl
theorem c_3_16 : Nat.add (bn (go5 3 16)) 1 = 2 := by kernel_rfl
theorem c_3_17 : Nat.add (bn (go5 3 17)) 1 = 2 := by kernel_rfl
theorem c_3_18 : Nat.add (bn (go5 3 18)) 1 = 2 := by kernel_rfl
theorem c_3_19 : Nat.add (bn (go5 3 19)) 1 = 2 := by kernel_rfl
theorem c_3_20 : Nat.add (bn (go5 3 20)) 1 = 2 := by kernel_rfl
theorem c_3_21 : Nat.add (bn (go5 3 21)) 1 = 2 := by kernel_rfl
theorem c_3_22 : Nat.add (bn (go5 3 22)) 1 = 2 := by kernel_rfl
theorem c_3_23 : Nat.add (bn (go5 3 23)) 1 = 2 := by kernel_rfl
theorem c_3_24 : Nat.add (bn (go5 3 24)) 1 = 2 := by kernel_rfl
theorem c_3_25 : Nat.add (bn (go5 3 25)) 1 = 2 := by kernel_rfl
theorem c_3_26 : Nat.add (bn (go5 3 26)) 1 = 2 := by kernel_rfl
theorem c_3_27 : Nat.add (bn (go5 3 27)) 1 = 2 := by kernel_rfl
theorem c_3_28 : Nat.add (bn (go5 3 28)) 1 = 2 := by kernel_rfl
theorem c_3_29 : Nat.add (bn (go5 3 29)) 1 = 2 := by kernel_rfl
end Go.Proofs.YtaekfgbfpfecdaaGreat.VM
