/- Functions of the program, printed: U3; no conditions. -/
import Derived.Test.YtaekfgbfpfecdaaGreatU2
namespace Go.Proofs.YtaekfgbfpfecdaaGreat.VM
open Go R
open Nat (land shiftRight beq add xor shiftLeft ble succ mod mul sub div lor pow)
set_option linter.unusedVariables false
set_option maxRecDepth 1000000
noncomputable section
def sf3 : FT 4 1 := fun a1 a2 a3 a4 m t s d k=>
 sf6 m t s d fun r5 m6 t6 s6 d6=>
 ifB (ifB (beq r5 1) false true) (
 false)<|
 force (shiftLeft t6 6) fun v7=>
 force (add t6 8) fun t8=>
 okB (ble (succ t8) 4194304)<|
 force (xor m6 (xor (shiftLeft (xor 0 (shiftLeft 0 256)) (shiftLeft t6 6)) (mod (add (xor 0 (shiftLeft 0 256)) t6) 2305843009213693951))) fun m9=>
 okB (ble 1 4)<|
 force (xor (xor (xor (xor (xor (xor (add v7 4611756387708436480) 18446744073709551616) (shiftLeft a1 128)) (shiftLeft (mod (add 2 (mod a2 4)) 18446744073709551616) 192)) (shiftLeft 1 320)) (shiftLeft 50 384)) (shiftLeft 256 448)) fun v10=>
 okB (ble 1 8)<|
 force (xor v10 (shiftLeft (xor (land (shiftRight v10 256) 18446744073709551615) (mod (add (land (shiftRight v10 192) 18446744073709551615) (mod a3 8)) 18446744073709551616)) 256)) fun v11=>
 force v11 fun v12=>
 sf7 v12 m9 t8 s6 d6 fun r13 r14 m15 t15 s15 d15=>
 okB (ifB (beq r13 0) true (ifB (beq r13 0) false true))<|
 join (fun (r16 m17 t17 s17 d17 : Nat)=>
 okB (ifB (ifB (beq r13 0) true (ifB (beq r14 0) false true)) true (ifB (ifB (beq r13 0) true (ifB (beq r14 0) false true)) false true))<|
 join (fun (r19 m20 t20 s20 d20 : Nat)=>
 join (fun (r22 m23 t23 s23 d23 : Nat)=>
 okB (ifB (ifB (ifB (beq r13 0) true (ifB (beq r14 0) false true)) true (beq r16 0)) true (ifB (ifB (ifB (beq r13 0) true (ifB (beq r14 0) false true)) true (beq r16 0)) false true))<|
 join (fun (r25 m26 t26 s26 d26 : Nat)=>
 okB (ifB (ifB (ifB (ifB (beq r13 0) true (ifB (beq r14 0) false true)) true (beq r16 0)) true (beq r22 0)) true (ifB (ifB (ifB (ifB (beq r13 0) true (ifB (beq r14 0) false true)) true (beq r16 0)) true (beq r22 0)) false true))<|
 ifB (ifB (ifB (ifB (ifB (beq r13 0) true (ifB (beq r14 0) false true)) true (beq r16 0)) true (beq r22 0)) true (ifB (beq r25 0) false true)) (
 false)<|
 okB (ble 1 20)<|
 force (mod (add 2 (mod a4 20)) 18446744073709551616) fun v28=>
 sf11 r13 v28 m26 t26 s26 d26 fun m29 t29 s29 d29=>
 sf12 r13 1 m29 t29 s29 d29 fun r30 m31 t31 s31 d31=>
 join (fun (r32 m33 t33 s33 d33 : Nat)=>
 okB (ifB (beq r30 0) true (ifB (beq r30 0) false true))<|
 ifB (ifB (beq r30 0) true (beq r32 0)) (
 false)<|
 sf13 r30 m33 t33 s33 d33 fun r35 m36 t36 s36 d36=>
 sf14 r35 2 m36 t36 s36 d36 fun r37 r38 m39 t39 s39 d39=>
 force r37 fun v40=>
 force (xor 5 36893488147419103232) fun v41=>
 sf10 r13 v41 m39 t39 s39 d39 fun r42 m43 t43 s43 d43=>
 force (mod (add (mod (mul 8 (land (shiftRight v11 192) 18446744073709551615)) 18446744073709551616) (mod (mul 2 (land (shiftRight v11 256) 18446744073709551615)) 18446744073709551616)) 18446744073709551616) fun v44=>
 sf11 r13 v44 m43 t43 s43 d43 fun m45 t45 s45 d45=>
 sf13 r30 m45 t45 s45 d45 fun r46 m47 t47 s47 d47=>
 sf14 r46 2 m47 t47 s47 d47 fun r48 r49 m50 t50 s50 d50=>
 force r48 fun v51=>
 okB (ifB (beq r5 1) (beq r5 1) true)<|
 okB (ifB (ifB (beq r5 1) (beq r38 1) false) (ifB (beq r5 1) (beq r38 1) false) true)<|
 okB (ifB (ifB (ifB (beq r5 1) (beq r38 1) false) (beq r42 0) false) (ifB (ifB (beq r5 1) (beq r38 1) false) (beq r42 0) false) true)<|
 okB (ifB (ifB (ifB (ifB (beq r5 1) (beq r38 1) false) (beq r42 0) false) (beq r49 1) false) (ifB (ifB (ifB (beq r5 1) (beq r38 1) false) (beq r42 0) false) (beq r49 1) false) true)<|
 join (fun (r52 m53 t53 s53 d53 : Nat)=>
 okB (ifB (ifB (ifB (ifB (ifB (beq r5 1) (beq r38 1) false) (beq r42 0) false) (beq r49 1) false) (beq (land (shiftRight v51 64) 18446744073709551615) 2) false) (ifB (ifB (ifB (ifB (beq r5 1) (beq r38 1) false) (beq r42 0) false) (beq r49 1) false) (beq (land (shiftRight v51 64) 18446744073709551615) 2) false) true)<|
 force (ifB (ifB (ifB (ifB (ifB (ifB (beq r5 1) (beq r38 1) false) (beq r42 0) false) (beq r49 1) false) (beq (land (shiftRight v51 64) 18446744073709551615) 2) false) (beq (land (shiftRight r52 64) 18446744073709551615) 0) false) 1 0) fun v55=>
 k v55 m53 t53 s53 d53) fun J54=>
 ifB (ifB (ifB (ifB (ifB (beq r5 1) (beq r38 1) false) (beq r42 0) false) (beq r49 1) false) (beq (land (shiftRight v51 64) 18446744073709551615) 2) false) (
 sf15 r30 m50 t50 s50 d50 fun r56 m57 t57 s57 d57=>
 J54 r56 m57 t57 s57 d57)<|
 J54 0 m50 t50 s50 d50) fun J34=>
 ifB (ifB (beq r30 0) false true) (
 sf13 r30 m31 t31 s31 d31 fun r58 m59 t59 s59 d59=>
 J34 r58 m59 t59 s59 d59)<|
 J34 0 m31 t31 s31 d31) fun J27=>
 ifB (ifB (ifB (ifB (ifB (beq r13 0) true (ifB (beq r14 0) false true)) true (beq r16 0)) true (beq r22 0)) false true) (
 force (xor 8 36893488147419103232) fun v60=>
 sf10 r13 v60 m23 t23 s23 d23 fun r61 m62 t62 s62 d62=>
 J27 r61 m62 t62 s62 d62)<|
 J27 0 m23 t23 s23 d23) fun J24=>
 ifB (ifB (ifB (ifB (beq r13 0) true (ifB (beq r14 0) false true)) true (beq r16 0)) false true) (
 sf9 r19 m20 t20 s20 d20 fun r63 m64 t64 s64 d64=>
 J24 r63 m64 t64 s64 d64)<|
 J24 0 m20 t20 s20 d20) fun J21=>
 ifB (ifB (ifB (ifB (beq r13 0) true (ifB (beq r14 0) false true)) true (beq r16 0)) false true) (
 sf8 r13 m17 t17 s17 d17 fun r65 m66 t66 s66 d66=>
 J21 r65 m66 t66 s66 d66)<|
 J21 0 m17 t17 s17 d17) fun J18=>
 ifB (ifB (ifB (beq r13 0) true (ifB (beq r14 0) false true)) false true) (
 sf8 r13 m15 t15 s15 d15 fun r67 m68 t68 s68 d68=>
 J18 r67 m68 t68 s68 d68)<|
 J18 0 m15 t15 s15 d15
def e3 : FunE := ⟨[.one .opq, .one (.int .u8), .one (.int .u8), .one (.int .u8)], [.one .bool], wrapF 4 1 sf3⟩
def i3 : FI := ⟨129, [10, 14, 17], [8, 9, 10, 11, 12, 13, 15, 16, 17, 18, 21, 38, 45, 49, 54, 60, 65, 76, 80, 81, 101, 108, 111, 115, 118, 123], [(6, e6), (7, e7), (8, e8), (9, e9), (10, e10), (11, e11), (12, e12), (13, e13), (14, e14), (15, e15)], []⟩
def a3 : An := (.sq .reg (.sq .reg (.sq (.sq .reg (.cd .dead .skip)) (.sq .reg (.sq .reg (.sq .reg (.sq (.sq .reg (.cd .dead .skip)) (.sq .reg (.sq .reg (.sq (.sq .reg (.cd .dead .skip)) (.sq .reg (.sq .reg (.sq .reg (.sq .reg (.sq .reg .ret)))))))))))))))
theorem q3 : AllN 4 fun l => ∀ m t s d k, R.denF i3 a3 (bodyOf Tryz.f3) Tryz.f3.results.toList e3.ps e3.rs l ⟨m, t, s, d⟩ k = wrapF 4 1 sf3 l ⟨m, t, s, d⟩ k := by
  intro x0 x1 x2 x3 m t s d k
  kernel_rfl
theorem ok3 : FunOK Tryz.prog 3 e3 := fun_ok facts mixed (I := i3) (FnsOK.cons ok6 (FnsOK.cons ok7 (FnsOK.cons ok8 (FnsOK.cons ok9 (FnsOK.cons ok10 (FnsOK.cons ok11 (FnsOK.cons ok12 (FnsOK.cons ok13 (FnsOK.cons ok14 (FnsOK.cons ok15 FnsOK.nil)))))))))) Tryz.func3 (by kernel_rfl) (by kernel_rfl) (by kernel_rfl) (an := a3) (by kernel_rfl) (by kernel_rfl) q3
end
end Go.Proofs.YtaekfgbfpfecdaaGreat.VM
