/- TopComesAgain on the machine: thirty cases; no conditions. -/
import Derived.Test.YtaekfgbfpfecdaaGreatQb
namespace Go.Proofs.YtaekfgbfpfecdaaGreat.VM
open Go R
set_option linter.unusedVariables false
set_option maxRecDepth 1000000
theorem c_3_30 : Nat.add (bn (go5 3 30)) 1 = 2 := by kernel_rfl
theorem c_3_31 : Nat.add (bn (go5 3 31)) 1 = 2 := by kernel_rfl
theorem c_3_32 : Nat.add (bn (go5 3 32)) 1 = 2 := by kernel_rfl
theorem c_3_33 : Nat.add (bn (go5 3 33)) 1 = 2 := by kernel_rfl
theorem c_3_34 : Nat.add (bn (go5 3 34)) 1 = 2 := by kernel_rfl
theorem c_3_35 : Nat.add (bn (go5 3 35)) 1 = 2 := by kernel_rfl
theorem c_3_36 : Nat.add (bn (go5 3 36)) 1 = 2 := by kernel_rfl
theorem c_3_37 : Nat.add (bn (go5 3 37)) 1 = 2 := by kernel_rfl
theorem c_3_38 : Nat.add (bn (go5 3 38)) 1 = 2 := by kernel_rfl
theorem c_3_39 : Nat.add (bn (go5 3 39)) 1 = 2 := by kernel_rfl
theorem c_3_40 : Nat.add (bn (go5 3 40)) 1 = 2 := by kernel_rfl
theorem c_3_41 : Nat.add (bn (go5 3 41)) 1 = 2 := by kernel_rfl
theorem c_3_42 : Nat.add (bn (go5 3 42)) 1 = 2 := by kernel_rfl
theorem c_3_43 : Nat.add (bn (go5 3 43)) 1 = 2 := by kernel_rfl
theorem c_3_44 : Nat.add (bn (go5 3 44)) 1 = 2 := by kernel_rfl
theorem c_3_45 : Nat.add (bn (go5 3 45)) 1 = 2 := by kernel_rfl
theorem c_3_46 : Nat.add (bn (go5 3 46)) 1 = 2 := by kernel_rfl
theorem c_3_47 : Nat.add (bn (go5 3 47)) 1 = 2 := by kernel_rfl
theorem c_3_48 : Nat.add (bn (go5 3 48)) 1 = 2 := by kernel_rfl
theorem c_3_49 : Nat.add (bn (go5 3 49)) 1 = 2 := by kernel_rfl
theorem c_3_50 : Nat.add (bn (go5 3 50)) 1 = 2 := by kernel_rfl
theorem c_3_51 : Nat.add (bn (go5 3 51)) 1 = 2 := by kernel_rfl
theorem c_3_52 : Nat.add (bn (go5 3 52)) 1 = 2 := by kernel_rfl
theorem c_3_53 : Nat.add (bn (go5 3 53)) 1 = 2 := by kernel_rfl
theorem c_3_54 : Nat.add (bn (go5 3 54)) 1 = 2 := by kernel_rfl
theorem c_3_55 : Nat.add (bn (go5 3 55)) 1 = 2 := by kernel_rfl
theorem c_3_56 : Nat.add (bn (go5 3 56)) 1 = 2 := by kernel_rfl
theorem c_3_57 : Nat.add (bn (go5 3 57)) 1 = 2 := by kernel_rfl
theorem c_3_58 : Nat.add (bn (go5 3 58)) 1 = 2 := by kernel_rfl
theorem c_3_59 : Nat.add (bn (go5 3 59)) 1 = 2 := by kernel_rfl
end Go.Proofs.YtaekfgbfpfecdaaGreat.VM
