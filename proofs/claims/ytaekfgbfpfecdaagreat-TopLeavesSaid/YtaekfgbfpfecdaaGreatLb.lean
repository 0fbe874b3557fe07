/- TopLeaves on the machine, by the remainders of its numbers; no conditions. -/
import Derived.Test.YtaekfgbfpfecdaaGreatL3
namespace Go.Proofs.YtaekfgbfpfecdaaGreat.VM
open Go R
open Nat (land shiftRight beq add xor shiftLeft ble succ mod mul sub div lor pow)
set_option linter.unusedVariables false
set_option maxRecDepth 1000000
noncomputable def gf4 : FT 3 1 := fun a1 a2 a3 m t s d k=>
 sf6 m t s d fun r4 m5 t5 s5 d5=>
 ifB (ifB (beq r4 1) false true) (
 false)<|
 force (shiftLeft t5 6) fun v6=>
 force (add t5 8) fun t7=>
 okB (ble (succ t7) 4194304)<|
 force (xor m5 (xor (shiftLeft (xor 0 (shiftLeft 0 256)) (shiftLeft t5 6)) (mod (add (xor 0 (shiftLeft 0 256)) t5) 2305843009213693951))) fun m8=>
 force (xor (xor (xor (xor (xor (xor (xor (add v6 4611756387708436480) 18446744073709551616) (shiftLeft a1 128)) 25108406941546723055343157692830665664409421777856138051584) (shiftLeft 20 256)) (shiftLeft 1 320)) (shiftLeft 50 384)) (shiftLeft 256 448)) fun v9=>
 force v9 fun v10=>
 sf7 v10 m8 t7 s5 d5 fun r11 r12 m13 t13 s13 d13=>
 okB (ifB (beq r11 0) true (ifB (beq r11 0) false true))<|
 join (fun (r14 m15 t15 s15 d15 : Nat)=>
 okB (ifB (ifB (beq r11 0) true (ifB (beq r12 0) false true)) true (ifB (ifB (beq r11 0) true (ifB (beq r12 0) false true)) false true))<|
 join (fun (r17 m18 t18 s18 d18 : Nat)=>
 join (fun (r20 m21 t21 s21 d21 : Nat)=>
 okB (ifB (ifB (ifB (beq r11 0) true (ifB (beq r12 0) false true)) true (beq r14 0)) true (ifB (ifB (ifB (beq r11 0) true (ifB (beq r12 0) false true)) true (beq r14 0)) false true))<|
 join (fun (r23 m24 t24 s24 d24 : Nat)=>
 okB (ifB (ifB (ifB (ifB (beq r11 0) true (ifB (beq r12 0) false true)) true (beq r14 0)) true (beq r20 0)) true (ifB (ifB (ifB (ifB (beq r11 0) true (ifB (beq r12 0) false true)) true (beq r14 0)) true (beq r20 0)) false true))<|
 ifB (ifB (ifB (ifB (ifB (beq r11 0) true (ifB (beq r12 0) false true)) true (beq r14 0)) true (beq r20 0)) true (ifB (beq r23 0) false true)) (
 false)<|
 okB (ble 1 10)<|
 force (mod (add 3 a2) 18446744073709551616) fun v26=>
 sf11 r11 v26 m24 t24 s24 d24 fun m27 t27 s27 d27=>
 force (xor 9 36893488147419103232) fun v28=>
 sf10 r11 v28 m27 t27 s27 d27 fun r29 m30 t30 s30 d30=>
 sf12 r11 2 m30 t30 s30 d30 fun r31 m32 t32 s32 d32=>
 sf12 r11 1 m32 t32 s32 d32 fun r33 m34 t34 s34 d34=>
 okB (ifB (beq r31 0) true (ifB (beq r31 0) false true))<|
 join (fun (r35 m36 t36 s36 d36 : Nat)=>
 okB (ifB (ifB (beq r31 0) true (beq r33 0)) true (ifB (ifB (beq r31 0) true (beq r33 0)) false true))<|
 ifB (ifB (ifB (beq r31 0) true (beq r33 0)) true (beq r35 0)) (
 false)<|
 sf15 r31 m36 t36 s36 d36 fun r38 m39 t39 s39 d39=>
 force r38 fun v40=>
 okB (ble 1 20)<|
 force (mod (add 2 a3) 18446744073709551616) fun v41=>
 sf11 r11 v41 m39 t39 s39 d39 fun m42 t42 s42 d42=>
 sf13 r33 m42 t42 s42 d42 fun r43 m44 t44 s44 d44=>
 sf14 r43 2 m44 t44 s44 d44 fun r45 r46 m47 t47 s47 d47=>
 force r45 fun v48=>
 force (xor 5 36893488147419103232) fun v49=>
 sf10 r11 v49 m47 t47 s47 d47 fun r50 m51 t51 s51 d51=>
 force (xor 6 36893488147419103232) fun v52=>
 sf10 r11 v52 m51 t51 s51 d51 fun r53 m54 t54 s54 d54=>
 force (xor 8 36893488147419103232) fun v55=>
 sf10 r11 v55 m54 t54 s54 d54 fun r56 m57 t57 s57 d57=>
 sf11 r11 2 m57 t57 s57 d57 fun m58 t58 s58 d58=>
 sf13 r33 m58 t58 s58 d58 fun r59 m60 t60 s60 d60=>
 sf14 r59 2 m60 t60 s60 d60 fun r61 r62 m63 t63 s63 d63=>
 force r61 fun v64=>
 okB (ifB (beq r4 1) (beq r4 1) true)<|
 okB (ifB (ifB (beq r4 1) (beq r29 0) false) (ifB (beq r4 1) (beq r29 0) false) true)<|
 okB (ifB (ifB (ifB (beq r4 1) (beq r29 0) false) (beq (land (shiftRight v40 64) 18446744073709551615) 3) false) (ifB (ifB (beq r4 1) (beq r29 0) false) (beq (land (shiftRight v40 64) 18446744073709551615) 3) false) true)<|
 okB (ifB (ifB (ifB (ifB (beq r4 1) (beq r29 0) false) (beq (land (shiftRight v40 64) 18446744073709551615) 3) false) (beq r46 1) false) (ifB (ifB (ifB (beq r4 1) (beq r29 0) false) (beq (land (shiftRight v40 64) 18446744073709551615) 3) false) (beq r46 1) false) true)<|
 okB (ifB (ifB (ifB (ifB (ifB (beq r4 1) (beq r29 0) false) (beq (land (shiftRight v40 64) 18446744073709551615) 3) false) (beq r46 1) false) (beq (land (shiftRight v48 64) 18446744073709551615) 3) false) (ifB (ifB (ifB (ifB (beq r4 1) (beq r29 0) false) (beq (land (shiftRight v40 64) 18446744073709551615) 3) false) (beq r46 1) false) (beq (land (shiftRight v48 64) 18446744073709551615) 3) false) true)<|
 okB (ifB (ifB (ifB (ifB (ifB (ifB (beq r4 1) (beq r29 0) false) (beq (land (shiftRight v40 64) 18446744073709551615) 3) false) (beq r46 1) false) (beq (land (shiftRight v48 64) 18446744073709551615) 3) false) (beq (land (shiftRight v48 128) 18446744073709551615) (land (shiftRight v40 128) 18446744073709551615)) false) (ifB (ifB (ifB (ifB (ifB (beq r4 1) (beq r29 0) false) (beq (land (shiftRight v40 64) 18446744073709551615) 3) false) (beq r46 1) false) (beq (land (shiftRight v48 64) 18446744073709551615) 3) false) (beq (land (shiftRight v48 128) 18446744073709551615) (land (shiftRight v40 128) 18446744073709551615)) false) true)<|
 okB (ifB (ifB (ifB (ifB (ifB (ifB (ifB (beq r4 1) (beq r29 0) false) (beq (land (shiftRight v40 64) 18446744073709551615) 3) false) (beq r46 1) false) (beq (land (shiftRight v48 64) 18446744073709551615) 3) false) (beq (land (shiftRight v48 128) 18446744073709551615) (land (shiftRight v40 128) 18446744073709551615)) false) (beq r50 0) false) (ifB (ifB (ifB (ifB (ifB (ifB (beq r4 1) (beq r29 0) false) (beq (land (shiftRight v40 64) 18446744073709551615) 3) false) (beq r46 1) false) (beq (land (shiftRight v48 64) 18446744073709551615) 3) false) (beq (land (shiftRight v48 128) 18446744073709551615) (land (shiftRight v40 128) 18446744073709551615)) false) (beq r50 0) false) true)<|
 okB (ifB (ifB (ifB (ifB (ifB (ifB (ifB (ifB (beq r4 1) (beq r29 0) false) (beq (land (shiftRight v40 64) 18446744073709551615) 3) false) (beq r46 1) false) (beq (land (shiftRight v48 64) 18446744073709551615) 3) false) (beq (land (shiftRight v48 128) 18446744073709551615) (land (shiftRight v40 128) 18446744073709551615)) false) (beq r50 0) false) (beq r53 0) false) (ifB (ifB (ifB (ifB (ifB (ifB (ifB (beq r4 1) (beq r29 0) false) (beq (land (shiftRight v40 64) 18446744073709551615) 3) false) (beq r46 1) false) (beq (land (shiftRight v48 64) 18446744073709551615) 3) false) (beq (land (shiftRight v48 128) 18446744073709551615) (land (shiftRight v40 128) 18446744073709551615)) false) (beq r50 0) false) (beq r53 0) false) true)<|
 okB (ifB (ifB (ifB (ifB (ifB (ifB (ifB (ifB (ifB (beq r4 1) (beq r29 0) false) (beq (land (shiftRight v40 64) 18446744073709551615) 3) false) (beq r46 1) false) (beq (land (shiftRight v48 64) 18446744073709551615) 3) false) (beq (land (shiftRight v48 128) 18446744073709551615) (land (shiftRight v40 128) 18446744073709551615)) false) (beq r50 0) false) (beq r53 0) false) (beq r56 0) false) (ifB (ifB (ifB (ifB (ifB (ifB (ifB (ifB (beq r4 1) (beq r29 0) false) (beq (land (shiftRight v40 64) 18446744073709551615) 3) false) (beq r46 1) false) (beq (land (shiftRight v48 64) 18446744073709551615) 3) false) (beq (land (shiftRight v48 128) 18446744073709551615) (land (shiftRight v40 128) 18446744073709551615)) false) (beq r50 0) false) (beq r53 0) false) (beq r56 0) false) true)<|
 join (fun (r65 m66 t66 s66 d66 : Nat)=>
 okB (ifB (ifB (ifB (ifB (ifB (ifB (ifB (ifB (ifB (ifB (beq r4 1) (beq r29 0) false) (beq (land (shiftRight v40 64) 18446744073709551615) 3) false) (beq r46 1) false) (beq (land (shiftRight v48 64) 18446744073709551615) 3) false) (beq (land (shiftRight v48 128) 18446744073709551615) (land (shiftRight v40 128) 18446744073709551615)) false) (beq r50 0) false) (beq r53 0) false) (beq r56 0) false) (beq r62 1) false) (ifB (ifB (ifB (ifB (ifB (ifB (ifB (ifB (ifB (beq r4 1) (beq r29 0) false) (beq (land (shiftRight v40 64) 18446744073709551615) 3) false) (beq r46 1) false) (beq (land (shiftRight v48 64) 18446744073709551615) 3) false) (beq (land (shiftRight v48 128) 18446744073709551615) (land (shiftRight v40 128) 18446744073709551615)) false) (beq r50 0) false) (beq r53 0) false) (beq r56 0) false) (beq r62 1) false) true)<|
 okB (ifB (ifB (ifB (ifB (ifB (ifB (ifB (ifB (ifB (ifB (ifB (beq r4 1) (beq r29 0) false) (beq (land (shiftRight v40 64) 18446744073709551615) 3) false) (beq r46 1) false) (beq (land (shiftRight v48 64) 18446744073709551615) 3) false) (beq (land (shiftRight v48 128) 18446744073709551615) (land (shiftRight v40 128) 18446744073709551615)) false) (beq r50 0) false) (beq r53 0) false) (beq r56 0) false) (beq r62 1) false) (beq r65 1) false) (ifB (ifB (ifB (ifB (ifB (ifB (ifB (ifB (ifB (ifB (beq r4 1) (beq r29 0) false) (beq (land (shiftRight v40 64) 18446744073709551615) 3) false) (beq r46 1) false) (beq (land (shiftRight v48 64) 18446744073709551615) 3) false) (beq (land (shiftRight v48 128) 18446744073709551615) (land (shiftRight v40 128) 18446744073709551615)) false) (beq r50 0) false) (beq r53 0) false) (beq r56 0) false) (beq r62 1) false) (beq r65 1) false) true)<|
 force (ifB (ifB (ifB (ifB (ifB (ifB (ifB (ifB (ifB (ifB (ifB (ifB (beq r4 1) (beq r29 0) false) (beq (land (shiftRight v40 64) 18446744073709551615) 3) false) (beq r46 1) false) (beq (land (shiftRight v48 64) 18446744073709551615) 3) false) (beq (land (shiftRight v48 128) 18446744073709551615) (land (shiftRight v40 128) 18446744073709551615)) false) (beq r50 0) false) (beq r53 0) false) (beq r56 0) false) (beq r62 1) false) (beq r65 1) false) (ble (succ (land (shiftRight v48 128) 18446744073709551615)) (land (shiftRight v64 128) 18446744073709551615)) false) 1 0) fun v68=>
 k v68 m66 t66 s66 d66) fun J67=>
 ifB (ifB (ifB (ifB (ifB (ifB (ifB (ifB (ifB (ifB (beq r4 1) (beq r29 0) false) (beq (land (shiftRight v40 64) 18446744073709551615) 3) false) (beq r46 1) false) (beq (land (shiftRight v48 64) 18446744073709551615) 3) false) (beq (land (shiftRight v48 128) 18446744073709551615) (land (shiftRight v40 128) 18446744073709551615)) false) (beq r50 0) false) (beq r53 0) false) (beq r56 0) false) (beq r62 1) false) (
 force v64 fun v69=>
 sf16 v69 m63 t63 s63 d63 fun r70 m71 t71 s71 d71=>
 J67 r70 m71 t71 s71 d71)<|
 J67 0 m63 t63 s63 d63) fun J37=>
 ifB (ifB (ifB (beq r31 0) true (beq r33 0)) false true) (
 sf13 r33 m34 t34 s34 d34 fun r72 m73 t73 s73 d73=>
 J37 r72 m73 t73 s73 d73)<|
 J37 0 m34 t34 s34 d34) fun J25=>
 ifB (ifB (ifB (ifB (ifB (beq r11 0) true (ifB (beq r12 0) false true)) true (beq r14 0)) true (beq r20 0)) false true) (
 force (xor 8 36893488147419103232) fun v74=>
 sf10 r11 v74 m21 t21 s21 d21 fun r75 m76 t76 s76 d76=>
 J25 r75 m76 t76 s76 d76)<|
 J25 0 m21 t21 s21 d21) fun J22=>
 ifB (ifB (ifB (ifB (beq r11 0) true (ifB (beq r12 0) false true)) true (beq r14 0)) false true) (
 sf9 r17 m18 t18 s18 d18 fun r77 m78 t78 s78 d78=>
 J22 r77 m78 t78 s78 d78)<|
 J22 0 m18 t18 s18 d18) fun J19=>
 ifB (ifB (ifB (ifB (beq r11 0) true (ifB (beq r12 0) false true)) true (beq r14 0)) false true) (
 sf8 r11 m15 t15 s15 d15 fun r79 m80 t80 s80 d80=>
 J19 r79 m80 t80 s80 d80)<|
 J19 0 m15 t15 s15 d15) fun J16=>
 ifB (ifB (ifB (beq r11 0) true (ifB (beq r12 0) false true)) false true) (
 sf8 r11 m13 t13 s13 d13 fun r81 m82 t82 s82 d82=>
 J16 r81 m82 t82 s82 d82)<|
 J16 0 m13 t13 s13 d13
noncomputable def bn (b : Bool) : Nat := @Bool.rec (fun _ => Nat) 0 1 b
theorem of_bn {b : Bool} (h : Nat.add (bn b) 1 = 2) : b = true := by
  cases b with
  | true => rfl
  | false => exact absurd (show (1 : Nat) = 2 from h) (by decide)
noncomputable def go4 (p h : Nat) : Bool := force str0 fun s => gf4 0 p h 0 1 s 0 (fun r m t s d => Nat.beq r 1)
noncomputable def w (p h : Nat) : Nat := bn (go4 p h)
theorem sfgf (x p h m t s d : Nat) (k : Nat → Nat → Nat → Nat → Nat → Bool) : sf4 x p h m t s d k = gf4 x (Nat.mod p 10) (Nat.mod h 20) m t s d k := by kernel_rfl
end Go.Proofs.YtaekfgbfpfecdaaGreat.VM
