/- TopComesAgain on the machine: thirty cases; no conditions. -/
import Derived.Test.YtaekfgbfpfecdaaGreatQb
namespace Go.Proofs.YtaekfgbfpfecdaaGreat.VM
open Go R
set_option linter.unusedVariables false
set_option maxRecDepth 1000000
theorem c_1_30 : Nat.add (bn (go5 1 30)) 1 = 2 := by kernel_rfl
theorem c_1_31 : Nat.add (bn (go5 1 31)) 1 = 2 := by kernel_rfl
theorem c_1_32 : Nat.add (bn (go5 1 32)) 1 = 2 := by kernel_rfl
theorem c_1_33 : Nat.add (bn (go5 1 33)) 1 = 2 := by kernel_rfl
theorem c_1_34 : Nat.add (bn (go5 1 34)) 1 = 2 := by kernel_rfl
theorem c_1_35 : Nat.add (bn (go5 1 35)) 1 = 2 := by kernel_rfl
theorem c_1_36 : Nat.add (bn (go5 1 36)) 1 = 2 := by kernel_rfl
theorem c_1_37 : Nat.add (bn (go5 1 37)) 1 = 2 := by kernel_rfl
theorem c_1_38 : Nat.add (bn (go5 1 38)) 1 = 2 := by kernel_rfl
theorem c_1_39 : Nat.add (bn (go5 1 39)) 1 = 2 := by kernel_rfl
theorem c_1_40 : Nat.add (bn (go5 1 40)) 1 = 2 := by kernel_rfl
theorem c_1_41 : Nat.add (bn (go5 1 41)) 1 = 2 := by kernel_rfl
theorem c_1_42 : Nat.add (bn (go5 1 42)) 1 = 2 := by kernel_rfl
theorem c_1_43 : Nat.add (bn (go5 1 43)) 1 = 2 := by kernel_rfl
theorem c_1_44 : Nat.add (bn (go5 1 44)) 1 = 2 := by kernel_rfl
theorem c_1_45 : Nat.add (bn (go5 1 45)) 1 = 2 := by kernel_rfl
theorem c_1_46 : Nat.add (bn (go5 1 46)) 1 = 2 := by kernel_rfl
theorem c_1_47 : Nat.add (bn (go5 1 47)) 1 = 2 := by kernel_rfl
theorem c_1_48 : Nat.add (bn (go5 1 48)) 1 = 2 := by kernel_rfl
theorem c_1_49 : Nat.add (bn (go5 1 49)) 1 = 2 := by kernel_rfl
theorem c_1_50 : Nat.add (bn (go5 1 50)) 1 = 2 := by kernel_rfl
theorem c_1_51 : Nat.add (bn (go5 1 51)) 1 = 2 := by kernel_rfl
theorem c_1_52 : Nat.add (bn (go5 1 52)) 1 = 2 := by kernel_rfl
theorem c_1_53 : Nat.add (bn (go5 1 53)) 1 = 2 := by kernel_rfl
theorem c_1_54 : Nat.add (bn (go5 1 54)) 1 = 2 := by kernel_rfl
theorem c_1_55 : Nat.add (bn (go5 1 55)) 1 = 2 := by kernel_rfl
theorem c_1_56 : Nat.add (bn (go5 1 56)) 1 = 2 := by kernel_rfl
theorem c_1_57 : Nat.add (bn (go5 1 57)) 1 = 2 := by kernel_rfl
theorem c_1_58 : Nat.add (bn (go5 1 58)) 1 = 2 := by kernel_rfl
theorem c_1_59 : Nat.add (bn (go5 1 59)) 1 = 2 := by kernel_rfl
end Go.Proofs.YtaekfgbfpfecdaaGreat.VM
