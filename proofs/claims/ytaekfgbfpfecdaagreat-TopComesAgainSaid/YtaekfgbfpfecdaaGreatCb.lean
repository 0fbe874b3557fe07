/- TopComesAgain on the machine, by the remainders of its numbers; no conditions. -/
import Derived.Test.YtaekfgbfpfecdaaGreatC3
namespace Go.Proofs.YtaekfgbfpfecdaaGreat.VM
open Go R
open Nat (land shiftRight beq add xor shiftLeft ble succ mod mul sub div lor pow)
set_option linter.unusedVariables false
set_option maxRecDepth 1000000
noncomputable def gf5 : FT 3 1 := fun a1 a2 a3 m t s d k=>
 sf6 m t s d fun r4 m5 t5 s5 d5=>
 ifB (ifB (beq r4 1) false true) (
 false)<|
 force (shiftLeft t5 6) fun v6=>
 force (add t5 8) fun t7=>
 okB (ble (succ t7) 4194304)<|
 force (xor m5 (xor (shiftLeft (xor 0 (shiftLeft 0 256)) (shiftLeft t5 6)) (mod (add (xor 0 (shiftLeft 0 256)) t5) 2305843009213693951))) fun m8=>
 okB (ble 1 4)<|
 force (xor (xor (xor (xor (xor (xor (xor (add v6 4611756387708436480) 18446744073709551616) (shiftLeft a1 128)) (shiftLeft (mod (add 2 a2) 18446744073709551616) 192)) (shiftLeft 12 256)) (shiftLeft 1 320)) (shiftLeft 50 384)) (shiftLeft 256 448)) fun v9=>
 force v9 fun v10=>
 sf7 v10 m8 t7 s5 d5 fun r11 r12 m13 t13 s13 d13=>
 okB (ifB (beq r11 0) true (ifB (beq r11 0) false true))<|
 join (fun (r14 m15 t15 s15 d15 : Nat)=>
 okB (ifB (ifB (beq r11 0) true (ifB (beq r12 0) false true)) true (ifB (ifB (beq r11 0) true (ifB (beq r12 0) false true)) false true))<|
 join (fun (r17 m18 t18 s18 d18 : Nat)=>
 join (fun (r20 m21 t21 s21 d21 : Nat)=>
 okB (ifB (ifB (ifB (beq r11 0) true (ifB (beq r12 0) false true)) true (beq r14 0)) true (ifB (ifB (ifB (beq r11 0) true (ifB (beq r12 0) false true)) true (beq r14 0)) false true))<|
 join (fun (r23 m24 t24 s24 d24 : Nat)=>
 okB (ifB (ifB (ifB (ifB (beq r11 0) true (ifB (beq r12 0) false true)) true (beq r14 0)) true (beq r20 0)) true (ifB (ifB (ifB (ifB (beq r11 0) true (ifB (beq r12 0) false true)) true (beq r14 0)) true (beq r20 0)) false true))<|
 ifB (ifB (ifB (ifB (ifB (beq r11 0) true (ifB (beq r12 0) false true)) true (beq r14 0)) true (beq r20 0)) true (ifB (beq r23 0) false true)) (
 false)<|
 sf11 r11 3 m24 t24 s24 d24 fun m26 t26 s26 d26=>
 force (xor 5 36893488147419103232) fun v27=>
 sf10 r11 v27 m26 t26 s26 d26 fun r28 m29 t29 s29 d29=>
 okB (ble 1 60)<|
 force a3 fun v30=>
 sf11 r11 v30 m29 t29 s29 d29 fun m31 t31 s31 d31=>
 sf12 r11 1 m31 t31 s31 d31 fun r32 m33 t33 s33 d33=>
 join (fun (r34 m35 t35 s35 d35 : Nat)=>
 okB (ifB (beq r32 0) true (ifB (beq r32 0) false true))<|
 ifB (ifB (beq r32 0) true (beq r34 0)) (
 false)<|
 sf13 r32 m35 t35 s35 d35 fun r37 m38 t38 s38 d38=>
 sf14 r37 2 m38 t38 s38 d38 fun r39 r40 m41 t41 s41 d41=>
 force r39 fun v42=>
 force (xor 6 36893488147419103232) fun v43=>
 sf10 r11 v43 m41 t41 s41 d41 fun r44 m45 t45 s45 d45=>
 force (xor 8 36893488147419103232) fun v46=>
 sf10 r11 v46 m45 t45 s45 d45 fun r47 m48 t48 s48 d48=>
 sf11 r11 2 m48 t48 s48 d48 fun m49 t49 s49 d49=>
 sf13 r32 m49 t49 s49 d49 fun r50 m51 t51 s51 d51=>
 sf14 r50 2 m51 t51 s51 d51 fun r52 r53 m54 t54 s54 d54=>
 force r52 fun v55=>
 okB (ifB (beq r4 1) (beq r4 1) true)<|
 okB (ifB (ifB (beq r4 1) (beq r28 0) false) (ifB (beq r4 1) (beq r28 0) false) true)<|
 okB (ifB (ifB (ifB (beq r4 1) (beq r28 0) false) (beq r40 1) false) (ifB (ifB (beq r4 1) (beq r28 0) false) (beq r40 1) false) true)<|
 okB (ifB (ifB (ifB (ifB (beq r4 1) (beq r28 0) false) (beq r40 1) false) (beq r44 0) false) (ifB (ifB (ifB (beq r4 1) (beq r28 0) false) (beq r40 1) false) (beq r44 0) false) true)<|
 okB (ifB (ifB (ifB (ifB (ifB (beq r4 1) (beq r28 0) false) (beq r40 1) false) (beq r44 0) false) (beq r47 0) false) (ifB (ifB (ifB (ifB (beq r4 1) (beq r28 0) false) (beq r40 1) false) (beq r44 0) false) (beq r47 0) false) true)<|
 join (fun (r56 m57 t57 s57 d57 : Nat)=>
 okB (ifB (ifB (ifB (ifB (ifB (ifB (beq r4 1) (beq r28 0) false) (beq r40 1) false) (beq r44 0) false) (beq r47 0) false) (beq r53 1) false) (ifB (ifB (ifB (ifB (ifB (beq r4 1) (beq r28 0) false) (beq r40 1) false) (beq r44 0) false) (beq r47 0) false) (beq r53 1) false) true)<|
 okB (ifB (ifB (ifB (ifB (ifB (ifB (ifB (beq r4 1) (beq r28 0) false) (beq r40 1) false) (beq r44 0) false) (beq r47 0) false) (beq r53 1) false) (beq r56 1) false) (ifB (ifB (ifB (ifB (ifB (ifB (beq r4 1) (beq r28 0) false) (beq r40 1) false) (beq r44 0) false) (beq r47 0) false) (beq r53 1) false) (beq r56 1) false) true)<|
 force (ifB (ifB (ifB (ifB (ifB (ifB (ifB (ifB (beq r4 1) (beq r28 0) false) (beq r40 1) false) (beq r44 0) false) (beq r47 0) false) (beq r53 1) false) (beq r56 1) false) (ble (succ (land (shiftRight v42 128) 18446744073709551615)) (land (shiftRight v55 128) 18446744073709551615)) false) 1 0) fun v59=>
 k v59 m57 t57 s57 d57) fun J58=>
 ifB (ifB (ifB (ifB (ifB (ifB (beq r4 1) (beq r28 0) false) (beq r40 1) false) (beq r44 0) false) (beq r47 0) false) (beq r53 1) false) (
 force v55 fun v60=>
 sf16 v60 m54 t54 s54 d54 fun r61 m62 t62 s62 d62=>
 J58 r61 m62 t62 s62 d62)<|
 J58 0 m54 t54 s54 d54) fun J36=>
 ifB (ifB (beq r32 0) false true) (
 sf13 r32 m33 t33 s33 d33 fun r63 m64 t64 s64 d64=>
 J36 r63 m64 t64 s64 d64)<|
 J36 0 m33 t33 s33 d33) fun J25=>
 ifB (ifB (ifB (ifB (ifB (beq r11 0) true (ifB (beq r12 0) false true)) true (beq r14 0)) true (beq r20 0)) false true) (
 force (xor 8 36893488147419103232) fun v65=>
 sf10 r11 v65 m21 t21 s21 d21 fun r66 m67 t67 s67 d67=>
 J25 r66 m67 t67 s67 d67)<|
 J25 0 m21 t21 s21 d21) fun J22=>
 ifB (ifB (ifB (ifB (beq r11 0) true (ifB (beq r12 0) false true)) true (beq r14 0)) false true) (
 sf9 r17 m18 t18 s18 d18 fun r68 m69 t69 s69 d69=>
 J22 r68 m69 t69 s69 d69)<|
 J22 0 m18 t18 s18 d18) fun J19=>
 ifB (ifB (ifB (ifB (beq r11 0) true (ifB (beq r12 0) false true)) true (beq r14 0)) false true) (
 sf8 r11 m15 t15 s15 d15 fun r70 m71 t71 s71 d71=>
 J19 r70 m71 t71 s71 d71)<|
 J19 0 m15 t15 s15 d15) fun J16=>
 ifB (ifB (ifB (beq r11 0) true (ifB (beq r12 0) false true)) false true) (
 sf8 r11 m13 t13 s13 d13 fun r72 m73 t73 s73 d73=>
 J16 r72 m73 t73 s73 d73)<|
 J16 0 m13 t13 s13 d13
noncomputable def bn (b : Bool) : Nat := @Bool.rec (fun _ => Nat) 0 1 b
theorem of_bn {b : Bool} (h : Nat.add (bn b) 1 = 2) : b = true := by
  cases b with
  | true => rfl
  | false => exact absurd (show (1 : Nat) = 2 from h) (by decide)
noncomputable def go5 (p h : Nat) : Bool := force str0 fun s => gf5 0 p h 0 1 s 0 (fun r m t s d => Nat.beq r 1)
noncomputable def w (p h : Nat) : Nat := bn (go5 p h)
theorem sfgf (x p h m t s d : Nat) (k : Nat → Nat → Nat → Nat → Nat → Bool) : sf5 x p h m t s d k = gf5 x (Nat.mod p 4) (Nat.mod h 60) m t s d k := by kernel_rfl
end Go.Proofs.YtaekfgbfpfecdaaGreat.VM
