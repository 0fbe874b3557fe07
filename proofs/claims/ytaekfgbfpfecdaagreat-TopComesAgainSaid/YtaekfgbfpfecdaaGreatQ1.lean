/- TopComesAgain on the machine: thirty cases; no conditions. -/
import Derived.Test.YtaekfgbfpfecdaaGreatQb
namespace Go.Proofs.YtaekfgbfpfecdaaGreat.VM
open Go R
set_option linter.unusedVariables false
set_option maxRecDepth 1000000
theorem c_0_30 : Nat.add (bn (go5 0 30)) 1 = 2 := by kernel_rfl
theorem c_0_31 : Nat.add (bn (go5 0 31)) 1 = 2 := by kernel_rfl
theorem c_0_32 : Nat.add (bn (go5 0 32)) 1 = 2 := by kernel_rfl
theorem c_0_33 : Nat.add (bn (go5 0 33)) 1 = 2 := by kernel_rfl
theorem c_0_34 : Nat.add (bn (go5 0 34)) 1 = 2 := by kernel_rfl
theorem c_0_35 : Nat.add (bn (go5 0 35)) 1 = 2 := by kernel_rfl
theorem c_0_36 : Nat.add (bn (go5 0 36)) 1 = 2 := by kernel_rfl
theorem c_0_37 : Nat.add (bn (go5 0 37)) 1 = 2 := by kernel_rfl
theorem c_0_38 : Nat.add (bn (go5 0 38)) 1 = 2 := by kernel_rfl
theorem c_0_39 : Nat.add (bn (go5 0 39)) 1 = 2 := by kernel_rfl
theorem c_0_40 : Nat.add (bn (go5 0 40)) 1 = 2 := by kernel_rfl
theorem c_0_41 : Nat.add (bn (go5 0 41)) 1 = 2 := by kernel_rfl
theorem c_0_42 : Nat.add (bn (go5 0 42)) 1 = 2 := by kernel_rfl
theorem c_0_43 : Nat.add (bn (go5 0 43)) 1 = 2 := by kernel_rfl
theorem c_0_44 : Nat.add (bn (go5 0 44)) 1 = 2 := by kernel_rfl
theorem c_0_45 : Nat.add (bn (go5 0 45)) 1 = 2 := by kernel_rfl
theorem c_0_46 : Nat.add (bn (go5 0 46)) 1 = 2 := by kernel_rfl
theorem c_0_47 : Nat.add (bn (go5 0 47)) 1 = 2 := by kernel_rfl
theorem c_0_48 : Nat.add (bn (go5 0 48)) 1 = 2 := by kernel_rfl
theorem c_0_49 : Nat.add (bn (go5 0 49)) 1 = 2 := by kernel_rfl
theorem c_0_50 : Nat.add (bn (go5 0 50)) 1 = 2 := by kernel_rfl
theorem c_0_51 : Nat.add (bn (go5 0 51)) 1 = 2 := by kernel_rfl
theorem c_0_52 : Nat.add (bn (go5 0 52)) 1 = 2 := by kernel_rfl
theorem c_0_53 : Nat.add (bn (go5 0 53)) 1 = 2 := by kernel_rfl
theorem c_0_54 : Nat.add (bn (go5 0 54)) 1 = 2 := by kernel_rfl
theorem c_0_55 : Nat.add (bn (go5 0 55)) 1 = 2 := by kernel_rfl
theorem c_0_56 : Nat.add (bn (go5 0 56)) 1 = 2 := by kernel_rfl
theorem c_0_57 : Nat.add (bn (go5 0 57)) 1 = 2 := by kernel_rfl
theorem c_0_58 : Nat.add (bn (go5 0 58)) 1 = 2 := by kernel_rfl
theorem c_0_59 : Nat.add (bn (go5 0 59)) 1 = 2 := by kernel_rfl
end Go.Proofs.YtaekfgbfpfecdaaGreat.VM
