/- TopComesAgain on the machine: thirty cases; no conditions. -/
import Derived.Test.YtaekfgbfpfecdaaGreatQb
namespace Go.Proofs.YtaekfgbfpfecdaaGreat.VM
open Go R
set_option linter.unusedVariables false
set_option maxRecDepth 1000000
theorem c_2_30 : Nat.add (bn (go5 2 30)) 1 = 2 := by kernel_rfl
theorem c_2_31 : Nat.add (bn (go5 2 31)) 1 = 2 := by kernel_rfl
theorem c_2_32 : Nat.add (bn (go5 2 32)) 1 = 2 := by kernel_rfl
theorem c_2_33 : Nat.add (bn (go5 2 33)) 1 = 2 := by kernel_rfl
theorem c_2_34 : Nat.add (bn (go5 2 34)) 1 = 2 := by kernel_rfl
theorem c_2_35 : Nat.add (bn (go5 2 35)) 1 = 2 := by kernel_rfl
theorem c_2_36 : Nat.add (bn (go5 2 36)) 1 = 2 := by kernel_rfl
theorem c_2_37 : Nat.add (bn (go5 2 37)) 1 = 2 := by kernel_rfl
theorem c_2_38 : Nat.add (bn (go5 2 38)) 1 = 2 := by kernel_rfl
theorem c_2_39 : Nat.add (bn (go5 2 39)) 1 = 2 := by kernel_rfl
theorem c_2_40 : Nat.add (bn (go5 2 40)) 1 = 2 := by kernel_rfl
theorem c_2_41 : Nat.add (bn (go5 2 41)) 1 = 2 := by kernel_rfl
theorem c_2_42 : Nat.add (bn (go5 2 42)) 1 = 2 := by kernel_rfl
theorem c_2_43 : Nat.add (bn (go5 2 43)) 1 = 2 := by kernel_rfl
theorem c_2_44 : Nat.add (bn (go5 2 44)) 1 = 2 := by kernel_rfl
theorem c_2_45 : Nat.add (bn (go5 2 45)) 1 = 2 := by kernel_rfl
theorem c_2_46 : Nat.add (bn (go5 2 46)) 1 = 2 := by kernel_rfl
theorem c_2_47 : Nat.add (bn (go5 2 47)) 1 = 2 := by kernel_rfl
theorem c_2_48 : Nat.add (bn (go5 2 48)) 1 = 2 := by kernel_rfl
theorem c_2_49 : Nat.add (bn (go5 2 49)) 1 = 2 := by kernel_rfl
theorem c_2_50 : Nat.add (bn (go5 2 50)) 1 = 2 := by kernel_rfl
theorem c_2_51 : Nat.add (bn (go5 2 51)) 1 = 2 := by kernel_rfl
theorem c_2_52 : Nat.add (bn (go5 2 52)) 1 = 2 := by kernel_rfl
theorem c_2_53 : Nat.add (bn (go5 2 53)) 1 = 2 := by kernel_rfl
theorem c_2_54 : Nat.add (bn (go5 2 54)) 1 = 2 := by kernel_rfl
theorem c_2_55 : Nat.add (bn (go5 2 55)) 1 = 2 := by kernel_rfl
theorem c_2_56 : Nat.add (bn (go5 2 56)) 1 = 2 := by kernel_rfl
theorem c_2_57 : Nat.add (bn (go5 2 57)) 1 = 2 := by kernel_rfl
theorem c_2_58 : Nat.add (bn (go5 2 58)) 1 = 2 := by kernel_rfl
theorem c_2_59 : Nat.add (bn (go5 2 59)) 1 = 2 := by kernel_rfl
end Go.Proofs.YtaekfgbfpfecdaaGreat.VM
