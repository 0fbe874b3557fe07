/- Functions of the program, printed: U2; no conditions. -/
import Derived.Test.YtaekfgbfpfecdaaGreatU1
namespace Go.Proofs.YtaekfgbfpfecdaaGreat.VM
open Go R
open Nat (land shiftRight beq add xor shiftLeft ble succ mod mul sub div lor pow)
set_option linter.unusedVariables false
set_option maxRecDepth 1000000
noncomputable section
def sf252 : FT 1 1 := fun a1 m t s d k=>
 force a1 fun v2=>
 force (ifB (beq (land (shiftRight v2 0) 18446744073709551615) 0) 1 0) fun v3=>
 k v3 m t s d
def e252 : FunE := ⟨[.agg (lay 179)], [.one .bool], wrapF 1 1 sf252⟩
def i252 : FI := ⟨6, [1], [1, 2], [], []⟩
def a252 : An := (.sq .reg (.sq .reg .ret))
theorem q252 : AllN 1 fun l => ∀ m t s d k, R.denF i252 a252 (bodyOf Tryz.f252) Tryz.f252.results.toList e252.ps e252.rs l ⟨m, t, s, d⟩ k = wrapF 1 1 sf252 l ⟨m, t, s, d⟩ k := by
  intro x0 m t s d k
  kernel_rfl
theorem ok252 : FunOK Tryz.prog 252 e252 := fun_ok facts mixed (I := i252) FnsOK.nil Tryz.func252 (by kernel_rfl) (by kernel_rfl) (by kernel_rfl) (an := a252) (by kernel_rfl) (by kernel_rfl) q252
def sf250 : FT 2 1 := fun a1 a2 m t s d k=>
 join (fun (m3 t3 s3 d3 : Nat)=>
 k 18446744073709551615 m3 t3 s3 d3) fun J4=>
 force (land (shiftRight a1 28) 131071) fun v5=>
 loopN 5 (fun (_ _ _ _ _ : Nat) => false) (fun L8 (p6 m7 t7 s7 d7 : Nat)=>
 ifB (ble (succ (xor p6 9223372036854775808)) (xor v5 9223372036854775808)) (
 okB (ble (succ p6) (land (shiftRight a1 28) 131071))<|
 okB (beq (land (shiftRight d7 (shiftRight (add (land a1 268435455) (mul p6 256)) 6)) 15) 0)<|
 join (fun (r9 m10 t10 s10 d10 : Nat)=>
 ifB (beq r9 1) (
 k p6 m10 t10 s10 d10)<|
 force (mod (add p6 1) 18446744073709551616) fun v12=>
 L8 v12 m10 t10 s10 d10) fun J11=>
 ifB (beq (land a2 1023) 190) (
 force (land (shiftRight m7 (add (land a1 268435455) (mul p6 256))) (mask 4)) fun v13=>
 force (shiftLeft (land (shiftRight a2 10) 4194303) 6) fun v14=>
 force (shiftLeft (land (shiftRight a2 32) 4194303) 6) fun v15=>
 sf189 v13 v14 v15 m7 t7 s7 d7 fun r16 m17 t17 s17 d17=>
 J11 r16 m17 t17 s17 d17)<|
 ifB (beq (land a2 1023) 253) (
 force (land (shiftRight m7 (add (land a1 268435455) (mul p6 256))) (mask 4)) fun v18=>
 sf252 v18 m7 t7 s7 d7 fun r19 m20 t20 s20 d20=>
 J11 r19 m20 t20 s20 d20)<|
 false)<|
 J4 m7 t7 s7 d7) 0 m t s d
def e250 : FunE := ⟨[.sli (lay 179), .one .fn], [.one (.int .i64)], wrapF 2 1 sf250⟩
def i250 : FI := ⟨19, [], [4, 5, 7, 8, 9, 16], [(189, e189), (252, e252)], [(16, [189, 252])]⟩
def a250 : An := (.sq .reg (.sj [] (.sq .reg (.bl (.lp [(8, .sh (.one (.int .i64)))] 5 (.sq .reg (.sq (.cd .skip .ex) (.sq (.bl (.sq .reg (.sq .reg (.cd (.sq .reg .ret) .skip)))) .reg)))))) (.sq .reg .ret)))
theorem q250 : AllN 2 fun l => ∀ m t s d k, R.denF i250 a250 (bodyOf Tryz.f250) Tryz.f250.results.toList e250.ps e250.rs l ⟨m, t, s, d⟩ k = wrapF 2 1 sf250 l ⟨m, t, s, d⟩ k := by
  intro x0 x1 m t s d k
  kernel_rfl
theorem ok250 : FunOK Tryz.prog 250 e250 := fun_ok facts mixed (I := i250) (FnsOK.cons ok189 (FnsOK.cons ok252 FnsOK.nil)) Tryz.func250 (by kernel_rfl) (by kernel_rfl) (by kernel_rfl) (an := a250) (by kernel_rfl) (by kernel_rfl) q250
def sf187 : FT 2 1 := fun a1 a2 m t s d k=>
 sf250 a1 a2 m t s d fun r3 m4 t4 s4 d4=>
 ifB (beq r3 18446744073709551615) (
 k a1 m4 t4 s4 d4)<|
 join (fun (p5 m6 t6 s6 d6 : Nat)=>
 okB (ifB (ble p5 (land (shiftRight a1 28) 131071)) (ble (land (shiftRight a1 28) 131071) (land (shiftRight a1 45) 131071)) false)<|
 join (fun (m8 t8 s8 d8 : Nat)=>
 okB (ifB (ble 0 p5) (ble p5 (land (shiftRight a1 45) 131071)) false)<|
 force (ifB (beq (land a1 268435455) 0) a1 (ifB (beq (add (sub (land (shiftRight a1 45) 131071) 0) (shiftRight a1 62)) 0) 9223372036854775808 (add (land a1 268435455) (shiftLeft (add (sub p5 0) (shiftLeft (add (sub (land (shiftRight a1 45) 131071) 0) (shiftLeft (shiftRight a1 62) 17)) 17)) 28)))) fun v10=>
 k v10 m8 t8 s8 d8) fun J9=>
 clrR (ifB (beq (land a1 268435455) 0) a1 (ifB (beq (add (sub (land (shiftRight a1 45) 131071) p5) (shiftRight a1 62)) 0) 9223372036854775808 (add (add (land a1 268435455) (mul p5 256)) (shiftLeft (add (sub (land (shiftRight a1 28) 131071) p5) (shiftLeft (add (sub (land (shiftRight a1 45) 131071) p5) (shiftLeft (shiftRight a1 62) 17)) 17)) 28)))) 4 m6 t6 s6 d6 J9) fun J7=>
 force (mod (add r3 1) 18446744073709551616) fun v11=>
 loopN 35 (fun (_ _ _ _ _ _ : Nat) => false) (fun L15 (p12 p13 m14 t14 s14 d14 : Nat)=>
 ifB (ble (succ (xor p13 9223372036854775808)) (xor (land (shiftRight a1 28) 131071) 9223372036854775808)) (
 okB (ble (succ p13) (land (shiftRight a1 28) 131071))<|
 okB (beq (land (shiftRight d14 (shiftRight (add (land a1 268435455) (mul p13 256)) 6)) 15) 0)<|
 force (land (shiftRight m14 (add (land a1 268435455) (mul p13 256))) (mask 4)) fun v16=>
 ifB (beq (land a2 1023) 253) (
 force v16 fun v17=>
 sf252 v17 m14 t14 s14 d14 fun r18 m19 t19 s19 d19=>
 ifB (ifB (beq r18 1) false true) (
 false)<|
 force (mod (add p13 1) 18446744073709551616) fun v20=>
 L15 p12 v20 m19 t19 s19 d19)<|
 false)<|
 J7 p12 m14 t14 s14 d14) r3 v11 m4 t4 s4 d4
def e187 : FunE := ⟨[.sli (lay 179), .one .fn], [.sli (lay 179)], wrapF 2 1 sf187⟩
def i187 : FI := ⟨42, [7], [4, 5, 6, 7, 12, 19, 29], [(250, e250), (252, e252)], [(28, [252])]⟩
def a187 : An := (.sq .reg (.sq .reg (.sq (.sq .reg (.cd (.sq .reg .ret) .skip)) (.sj [(5, .sh (.one (.int .i64)))] (.sq .reg (.bl (.lp [(5, .sh (.one (.int .i64))), (6, .sh (.one (.int .i64)))] 35 (.sq (.sq .reg (.cd .skip .ex)) (.sq (.bl (.sq .reg (.sq .reg (.cd .dead .skip)))) .reg))))) (.sq .reg (.sq .reg .ret))))))
theorem q187 : AllN 2 fun l => ∀ m t s d k, R.denF i187 a187 (bodyOf Tryz.f187) Tryz.f187.results.toList e187.ps e187.rs l ⟨m, t, s, d⟩ k = wrapF 2 1 sf187 l ⟨m, t, s, d⟩ k := by
  intro x0 x1 m t s d k
  kernel_rfl
theorem ok187 : FunOK Tryz.prog 187 e187 := fun_ok facts mixed (I := i187) (FnsOK.cons ok250 (FnsOK.cons ok252 FnsOK.nil)) Tryz.func187 (by kernel_rfl) (by kernel_rfl) (by kernel_rfl) (an := a187) (by kernel_rfl) (by kernel_rfl) q187
def sf251 : FT 1 1 := fun a1 m t s d k=>
 ifB (beq a1 0) (
 false)<|
 okB (beq (land (shiftRight d (shiftRight (land a1 268435455) 6)) (sub (shiftLeft 1 (mul (land (shiftRight a1 28) 131071) 4)) 1)) 0)<|
 join (fun (r2 m3 t3 s3 d3 : Nat)=>
 k r2 m3 t3 s3 d3) fun J4=>
 appR 4 (add (shiftLeft t 6) 4611686018427387904) (land (shiftRight a1 28) 131071) (land (shiftRight m (land a1 268435455)) (mask (mul (land (shiftRight a1 28) 131071) 4))) m t s d J4
def e251 : FunE := ⟨[.sli (lay 179)], [.sli (lay 179)], wrapF 1 1 sf251⟩
def i251 : FI := ⟨8, [], [2, 4], [], []⟩
def a251 : An := (.sq .reg (.sq (.sq .reg (.cd .dead .skip)) (.sq .reg .ret)))
theorem q251 : AllN 1 fun l => ∀ m t s d k, R.denF i251 a251 (bodyOf Tryz.f251) Tryz.f251.results.toList e251.ps e251.rs l ⟨m, t, s, d⟩ k = wrapF 1 1 sf251 l ⟨m, t, s, d⟩ k := by
  intro x0 m t s d k
  kernel_rfl
theorem ok251 : FunOK Tryz.prog 251 e251 := fun_ok facts mixed (I := i251) FnsOK.nil Tryz.func251 (by kernel_rfl) (by kernel_rfl) (by kernel_rfl) (an := a251) (by kernel_rfl) (by kernel_rfl) q251
def sf188 : FT 1 1 := fun a1 m t s d k=>
 okB (ifB (beq a1 0) false true)<|
 okB (ifB (ble 1 33) (ifB (ble 33 33) (ble (succ (add a1 128)) 134217728) false) false)<|
 force (add (add (add a1 128) 256) 4612811926924165120) fun v2=>
 sf251 v2 m t s d fun r3 m4 t4 s4 d4=>
 sf187 r3 253 m4 t4 s4 d4 fun r5 m6 t6 s6 d6=>
 k r5 m6 t6 s6 d6
def e188 : FunE := ⟨[.ptr (lay 183) false false], [.sli (lay 179)], wrapF 1 1 sf188⟩
def i188 : FI := ⟨9, [], [2], [(187, e187), (251, e251)], []⟩
def a188 : An := (.sq .reg (.sq .reg .ret))
theorem q188 : AllN 1 fun l => ∀ m t s d k, R.denF i188 a188 (bodyOf Tryz.f188) Tryz.f188.results.toList e188.ps e188.rs l ⟨m, t, s, d⟩ k = wrapF 1 1 sf188 l ⟨m, t, s, d⟩ k := by
  intro x0 m t s d k
  kernel_rfl
theorem ok188 : FunOK Tryz.prog 188 e188 := fun_ok facts mixed (I := i188) (FnsOK.cons ok187 (FnsOK.cons ok251 FnsOK.nil)) Tryz.func188 (by kernel_rfl) (by kernel_rfl) (by kernel_rfl) (an := a188) (by kernel_rfl) (by kernel_rfl) q188
def sf293 : FT 4 0 := fun a1 a2 a3 a4 m t s d k=>
 force (mod (add a2 1) 18446744073709551616) fun v5=>
 loopN 4 (fun (_ _ _ _ _ : Nat) => false) (fun L8 (p6 m7 t7 s7 d7 : Nat)=>
 ifB (ble (succ (xor p6 9223372036854775808)) (xor a3 9223372036854775808)) (
 false)<|
 k m7 t7 s7 d7) v5 m t s d
def e293 : FunE := ⟨[.sli (lay 179), .one (.int .i64), .one (.int .i64), .one .fn], [], wrapF 4 0 sf293⟩
def i293 : FI := ⟨53, [], [8, 9, 14, 21, 34], [], []⟩
def a293 : An := (.sq .reg (.bl (.lp [(8, .sh (.one (.int .i64)))] 4 (.sq (.sq .reg (.cd .dead .ex)) .dead))))
theorem q293 : AllN 4 fun l => ∀ m t s d k, R.denF i293 a293 (bodyOf Tryz.f293) Tryz.f293.results.toList e293.ps e293.rs l ⟨m, t, s, d⟩ k = wrapF 4 0 sf293 l ⟨m, t, s, d⟩ k := by
  intro x0 x1 x2 x3 m t s d k
  kernel_rfl
theorem ok293 : FunOK Tryz.prog 293 e293 := fun_ok facts mixed (I := i293) FnsOK.nil Tryz.func293 (by kernel_rfl) (by kernel_rfl) (by kernel_rfl) (an := a293) (by kernel_rfl) (by kernel_rfl) q293
def sf253 : FT 5 0 := fun a1 a2 a3 a4 a5 m t s d k=>
 force (ifB true 1 0) fun v15=>
 force (ifB true 1 0) fun v16=>
 loopN 4 (fun (_ _ _ _ _ _ _ _ _ : Nat) => false) (fun L12 (p6 p7 p8 p9 p10 m11 t11 s11 d11 : Nat)=>
 force (mod (sub (add p7 18446744073709551616) p6) 18446744073709551616) fun v13=>
 ifB (ifB (ble 9223372036854775821 (xor v13 9223372036854775808)) false true) (
 sf293 a1 p6 p7 a5 m11 t11 s11 d11 fun m14 t14 s14 d14=>
 k m14 t14 s14 d14)<|
 false) a2 a3 a4 v15 v16 m t s d
def e253 : FunE := ⟨[.sli (lay 179), .one (.int .i64), .one (.int .i64), .one (.int .i64), .one .fn], [], wrapF 5 0 sf253⟩
def i253 : FI := ⟨148, [], [1, 2, 3, 10, 11, 12, 13, 14, 15, 16, 17, 18, 19, 20, 25, 32, 39, 47, 56, 69, 72, 75, 80, 83, 97, 105, 125], [(293, e293)], []⟩
def a253 : An := (.sq .reg (.sq .reg (.bl (.lp [(1, .sh (.one (.int .i64))), (2, .sh (.one (.int .i64))), (3, .sh (.one (.int .i64))), (10, .sh (.one .bool)), (11, .sh (.one .bool))] 4 (.bl (.sq .reg (.sq (.sq .reg (.cd (.sq .reg .ret) .dead)) .dead)))))))
theorem q253 : AllN 5 fun l => ∀ m t s d k, R.denF i253 a253 (bodyOf Tryz.f253) Tryz.f253.results.toList e253.ps e253.rs l ⟨m, t, s, d⟩ k = wrapF 5 0 sf253 l ⟨m, t, s, d⟩ k := by
  intro x0 x1 x2 x3 x4 m t s d k
  kernel_rfl
theorem ok253 : FunOK Tryz.prog 253 e253 := fun_ok facts mixed (I := i253) (FnsOK.cons ok293 FnsOK.nil) Tryz.func253 (by kernel_rfl) (by kernel_rfl) (by kernel_rfl) (an := a253) (by kernel_rfl) (by kernel_rfl) q253
def sf190 : FT 2 0 := fun a1 a2 m t s d k=>
 force (land (shiftRight a1 28) 131071) fun v3=>
 sf254 v3 m t s d fun r4 m5 t5 s5 d5=>
 sf253 a1 0 v3 r4 a2 m5 t5 s5 d5 fun m6 t6 s6 d6=>
 k m6 t6 s6 d6
def e190 : FunE := ⟨[.sli (lay 179), .one .fn], [], wrapF 2 0 sf190⟩
def i190 : FI := ⟨14, [], [4], [(253, e253), (254, e254)], []⟩
def a190 : An := (.sq .reg .reg)
theorem q190 : AllN 2 fun l => ∀ m t s d k, R.denF i190 a190 (bodyOf Tryz.f190) Tryz.f190.results.toList e190.ps e190.rs l ⟨m, t, s, d⟩ k = wrapF 2 0 sf190 l ⟨m, t, s, d⟩ k := by
  intro x0 x1 m t s d k
  kernel_rfl
theorem ok190 : FunOK Tryz.prog 190 e190 := fun_ok facts mixed (I := i190) (FnsOK.cons ok253 (FnsOK.cons ok254 FnsOK.nil)) Tryz.func190 (by kernel_rfl) (by kernel_rfl) (by kernel_rfl) (an := a190) (by kernel_rfl) (by kernel_rfl) q190
def sf135 : FT 2 2 := fun a1 a2 m t s d k=>
 force (shiftLeft t 6) fun v3=>
 force (add t 1) fun t4=>
 okB (ble (succ t4) 4194304)<|
 force (xor m (xor (shiftLeft a1 (shiftLeft t 6)) (mod (add a1 t) 2305843009213693951))) fun m5=>
 force (shiftLeft t4 6) fun v6=>
 force (add t4 1) fun t7=>
 okB (ble (succ t7) 4194304)<|
 force (xor m5 (xor (shiftLeft a2 (shiftLeft t4 6)) (mod (add a2 t4) 2305843009213693951))) fun m8=>
 join (loopN 4 (fun (_ _ _ _ _ _ _ _ _ : Nat) => false) (fun L15 (p9 p10 p11 p12 p13 m14 t14 s14 d14 : Nat)=>
 ifB (beq p13 (land (shiftRight p10 28) 131071)) (
 force p9 fun v17=>
 force v17 fun v18=>
 force (ifB (ble 9223372036854775809 (xor p11 9223372036854775808)) 1 0) fun v19=>
 k v18 v19 m14 t14 s14 d14)<|
 okB (ifB (ifB (beq p13 0) false true) (ble (succ p13) (land (shiftRight p10 28) 131071)) true)<|
 okB (ifB (ifB (beq p13 0) false true) (beq (land (shiftRight d14 (shiftRight (add (add (land p10 268435455) (mul p13 256)) 64) 6)) 3) 0) true)<|
 okB (ifB (ifB (beq p13 0) false true) (ble (succ (mod (sub (add p13 18446744073709551616) 1) 18446744073709551616)) (land (shiftRight p10 28) 131071)) true)<|
 okB (ifB (ifB (beq p13 0) false true) (beq (land (shiftRight d14 (shiftRight (add (add (land p10 268435455) (mul (mod (sub (add p13 18446744073709551616) 1) 18446744073709551616) 256)) 64) 6)) 3) 0) true)<|
 okB (ifB (beq p13 0) true (ifB (beq p13 0) false true))<|
 ifB (ifB (beq p13 0) true (ifB (beq (land (shiftRight m14 (add (add (land p10 268435455) (mul p13 256)) 64)) 340282366920938463463374607431768211455) (land (shiftRight m14 (add (add (land p10 268435455) (mul (mod (sub (add p13 18446744073709551616) 1) 18446744073709551616) 256)) 64)) 340282366920938463463374607431768211455)) false true)) (
 force 1 fun v20=>
 ifB (ble (succ (xor p11 9223372036854775808)) (xor v20 9223372036854775808)) (
 okB (ble (succ p13) (land (shiftRight p10 28) 131071))<|
 okB (beq (land (shiftRight d14 (shiftRight (add (add (land p10 268435455) (mul p13 256)) 64) 6)) 3) 0)<|
 force (land (shiftRight m14 (add (add (land p10 268435455) (mul p13 256)) 64)) 340282366920938463463374607431768211455) fun v21=>
 force (mod (add p13 1) 18446744073709551616) fun v22=>
 L15 v21 p10 v20 v20 v22 m14 t14 s14 d14)<|
 false)<|
 false)) fun J16=>
 force (land (shiftRight m8 v3) 18446744073709551615) fun v23=>
 sf188 v23 m8 t7 s d fun r24 m25 t25 s25 d25=>
 okB (ifB (ifB (beq v3 0) false (ble (succ v3) 268435456)) (ifB (beq v6 0) false (ble (succ v6) 268435456)) false)<|
 force (add (add 190 (shiftLeft (shiftRight v3 6) 10)) (shiftLeft (shiftRight v6 6) 32)) fun v26=>
 sf187 r24 v26 m25 t25 s25 d25 fun r27 m28 t28 s28 d28=>
 sf190 r27 192 m28 t28 s28 d28 fun m29 t29 s29 d29=>
 ifB (beq 0 (land (shiftRight r27 28) 131071)) (
 force 0 fun v30=>
 force v30 fun v31=>
 force (ifB (ble 9223372036854775809 9223372036854775808) 1 0) fun v32=>
 k v31 v32 m29 t29 s29 d29)<|
 okB (ifB (ifB (beq 0 0) false true) (ble 1 (land (shiftRight r27 28) 131071)) true)<|
 okB (ifB (ifB (beq 0 0) false true) (beq (land (shiftRight d29 (shiftRight (add (add (land r27 268435455) 0) 64) 6)) 3) 0) true)<|
 okB (ifB (ifB (beq 0 0) false true) (ble 18446744073709551616 (land (shiftRight r27 28) 131071)) true)<|
 okB (ifB (ifB (beq 0 0) false true) (beq (land (shiftRight d29 (shiftRight (add (add (land r27 268435455) 4722366482869645213440) 64) 6)) 3) 0) true)<|
 okB (ifB (beq 0 0) true (ifB (beq 0 0) false true))<|
 ifB (ifB (beq 0 0) true (ifB (beq (land (shiftRight m29 (add (add (land r27 268435455) 0) 64)) 340282366920938463463374607431768211455) (land (shiftRight m29 (add (add (land r27 268435455) 4722366482869645213440) 64)) 340282366920938463463374607431768211455)) false true)) (
 force 1 fun v33=>
 ifB (ble 9223372036854775809 (xor v33 9223372036854775808)) (
 okB (ble 1 (land (shiftRight r27 28) 131071))<|
 okB (beq (land (shiftRight d29 (shiftRight (add (add (land r27 268435455) 0) 64) 6)) 3) 0)<|
 force (land (shiftRight m29 (add (add (land r27 268435455) 0) 64)) 340282366920938463463374607431768211455) fun v34=>
 force 1 fun v35=>
 J16 v34 r27 v33 v33 v35 m29 t29 s29 d29)<|
 false)<|
 false
def e135 : FunE := ⟨[.ptr (lay 183) false false, .one (.int .u64)], [.agg (lay 44), .one .bool], wrapF 2 2 sf135⟩
def i135 : FI := ⟨52, [4], [2, 3, 4, 5, 6, 7, 8, 9, 19, 25, 38, 43], [(187, e187), (188, e188), (190, e190)], []⟩
def a135 : An := (.sq .reg (.sc (.lb 0 [(4, .loc (lay 44)), (6, .sh (.sli (lay 179))), (7, .sh (.one (.int .i64))), (8, .sh (.one (.int .i64))), (9, .sh (.one (.int .i64)))] 4 (.sq .skip (.sq (.sq .reg (.cd (.sq .reg .ret) .skip)) (.sq (.sq (.drw [(0, 0), (1, 0), (2, 0), (3, 0), (4, 0), (5, 0), (6, 0), (7, 0), (8, 0), (9, 0), (10, 0), (11, 0), (12, 0), (13, 0), (14, 0), (15, 0)]) (.cd .reg .dead)) (.sq (.sq .reg (.sq .reg (.cd (.drw [(0, 0), (1, 0), (2, 0), (3, 0), (4, 0), (5, 0), (6, 0), (7, 1)]) .dead))) (.sq .reg .go))))) (.sq .reg (.sq .reg (.sq .reg (.sq .skip (.sq (.sq .reg (.cd (.sq .reg .ret) .skip)) (.sq (.sq (.drw [(0, 0), (1, 0), (2, 0), (3, 0), (4, 0), (5, 0), (6, 0), (7, 0), (8, 0), (9, 0), (10, 0), (11, 0), (12, 0), (13, 0), (14, 0), (15, 0)]) (.cd .reg .dead)) (.sq (.sq .reg (.sq .reg (.cd (.drw [(0, 0), (1, 0), (2, 0), (3, 0), (4, 0), (5, 0), (6, 0), (7, 1)]) .dead))) (.sq .reg .go)))))))))))
theorem q135 : AllN 2 fun l => ∀ m t s d k, R.denF i135 a135 (bodyOf Tryz.f135) Tryz.f135.results.toList e135.ps e135.rs l ⟨m, t, s, d⟩ k = wrapF 2 2 sf135 l ⟨m, t, s, d⟩ k := by
  intro x0 x1 m t s d k
  kernel_rfl
theorem ok135 : FunOK Tryz.prog 135 e135 := fun_ok facts mixed (I := i135) (FnsOK.cons ok187 (FnsOK.cons ok188 (FnsOK.cons ok190 FnsOK.nil))) Tryz.func135 (by kernel_rfl) (by kernel_rfl) (by kernel_rfl) (an := a135) (by kernel_rfl) (by kernel_rfl) q135
def sf131r : FT 2 1 := fun a1 a2 m t s d k=>
 okB (ifB (beq a1 0) false true)<|
 force (land (shiftRight m (add a1 1664)) 18446744073709551615) fun v3=>
 sf135 v3 a2 m t s d fun r4 r5 m6 t6 s6 d6=>
 force r4 fun v7=>
 ifB (beq r5 1) (
 force v7 fun v8=>
 force v8 fun v9=>
 k v9 m6 t6 s6 d6)<|
 okB (ifB (beq a1 0) false true)<|
 force (land (shiftRight m6 (add (add a1 640) 192)) 340282366920938463463374607431768211455) fun v10=>
 force v10 fun v11=>
 k v11 m6 t6 s6 d6
def e131r : FunE := ⟨[.ptr (lay 104) false false, .one (.int .u64)], [.agg (lay 44)], wrapF 2 1 sf131r⟩
def i131r : FI := ⟨23, [4, 5], [4, 5, 6, 7, 16], [(135, e135)], []⟩
def a131r : An := (.sq .reg (.sq (.sq .reg (.sq .reg (.cd (.sq .reg .ret) .skip))) (.sq .reg .ret)))
theorem q131r : AllN 2 fun l => ∀ m t s d k, R.denF i131r a131r (bodyOf Tryz.f131) Tryz.f131.results.toList e131r.ps e131r.rs l ⟨m, t, s, d⟩ k = wrapF 2 1 sf131r l ⟨m, t, s, d⟩ k := by
  intro x0 x1 m t s d k
  kernel_rfl
theorem ok131r : FunOK Tryz.prog 131 e131r := fun_ok facts mixed (I := i131r) (FnsOK.cons ok135 FnsOK.nil) Tryz.func131 (by kernel_rfl) (by kernel_rfl) (by kernel_rfl) (an := a131r) (by kernel_rfl) (by kernel_rfl) q131r
def sf131 : FT 2 1 := fun a0 a1 m t s d k=>
 sf131r a0 a1 m t s d fun r0 m1 t1 s1 d1=>
 ifB (beq (shiftRight m 64) (shiftRight (land (shiftRight m1 0) (mask t)) 64)) (k r0 m t s1 (mod d1 (pow 2 t)))<|
 k r0 m1 t1 s1 d1
def e131 : FunE := ⟨[.ptr (lay 104) false false, .one (.int .u64)], [.agg (lay 44)], wrapF 2 1 sf131⟩
theorem q131 : AllN 2 fun l => ∀ m t s d k, resetF e131r.rs e131r.f l ⟨m, t, s, d⟩ k = wrapF 2 1 sf131 l ⟨m, t, s, d⟩ k := by
  intro x0 x1 m t s d k
  kernel_rfl
theorem ok131 : FunOK Tryz.prog 131 e131 := FunOK.wrap (FunOK.reset (ps := e131r.ps) (rs := e131r.rs) (F := e131r.f) ok131r) q131
def sf93 : FT 2 0 := fun a1 a2 m t s d k=>
 okB (ifB (beq a1 0) false true)<|
 force (land (shiftRight m (add a1 1856)) 18446744073709551615) fun v3=>
 sf129 v3 a2 m t s d fun r4 m5 t5 s5 d5=>
 force (land (shiftRight r4 28) 131071) fun v6=>
 loopN 5 (fun (_ _ _ _ _ : Nat) => false) (fun L9 (p7 m8 t8 s8 d8 : Nat)=>
 ifB (ble (succ (xor p7 9223372036854775808)) (xor v6 9223372036854775808)) (
 join (fun (m10 t10 s10 d10 : Nat)=>
 force (mod (add p7 1) 18446744073709551616) fun v12=>
 L9 v12 m10 t10 s10 d10) fun J11=>
 okB (ble (succ p7) (land (shiftRight r4 28) 131071))<|
 okB (beq (land (shiftRight d8 (shiftRight (add (land r4 268435455) (mul p7 128)) 6)) 3) 0)<|
 force (land (shiftRight m8 (add (land r4 268435455) (mul p7 128))) 340282366920938463463374607431768211455) fun v13=>
 ifB (beq (land (shiftRight v13 64) 18446744073709551615) 1) (
 sf131 a1 a2 m8 t8 s8 d8 fun r14 m15 t15 s15 d15=>
 okB (beq (land (shiftRight v13 0) 18446744073709551615) (land (shiftRight v13 0) 18446744073709551615))<|
 okB (beq (land (shiftRight v13 0) 18446744073709551615) (land (shiftRight v13 0) 18446744073709551615))<|
 force (land (shiftRight v13 0) 18446744073709551615) fun v16=>
 force (xor (xor (xor 16 340282366920938463463374607431768211456) (shiftLeft (land (shiftRight v13 0) 18446744073709551615) 192)) (shiftLeft r14 256)) fun v17=>
 sf130 a1 v16 v17 m15 t15 s15 d15 fun r18 m19 t19 s19 d19=>
 J11 m19 t19 s19 d19)<|
 okB (ifB (beq a1 0) false true)<|
 force (land (shiftRight m8 (add a1 1856)) 18446744073709551615) fun v20=>
 force (land (shiftRight v13 0) 18446744073709551615) fun v21=>
 sf132 v20 v21 m8 t8 s8 d8 fun r22 r23 m24 t24 s24 d24=>
 okB (beq (land (shiftRight v13 0) 18446744073709551615) (land (shiftRight v13 0) 18446744073709551615))<|
 okB (beq (land (shiftRight m24 (add a1 1856)) 18446744073709551615) (land (shiftRight m8 (add a1 1856)) 18446744073709551615))<|
 force r22 fun v25=>
 force (land (shiftRight v25 192) 340282366920938463463374607431768211455) fun v26=>
 force 12 fun v27=>
 sf105 a1 v26 v27 m24 t24 s24 d24 fun m28 t28 s28 d28=>
 J11 m28 t28 s28 d28)<|
 k m8 t8 s8 d8) 0 m5 t5 s5 d5
def e93 : FunE := ⟨[.ptr (lay 104) false false, .one (.int .u64)], [], wrapF 2 0 sf93⟩
def i93 : FI := ⟨48, [5, 6], [5, 6, 13, 14, 15, 16, 21, 32], [(105, e105), (129, e129), (130, e130), (131, e131), (132, e132)], []⟩
def a93 : An := (.sq .reg (.bl (.lp [(15, .sh (.one (.int .i64)))] 5 (.sq .reg (.sq (.cd .skip .ex) (.sj [] (.bl (.sq .reg (.sq (.sq .reg (.cd (.sq (.drw [(0, 0), (1, 0), (2, 0), (3, 0), (4, 0), (5, 0), (6, 0), (7, 1), (8, 0), (9, 1)]) .ex) .skip)) (.sq (.drw [(0, 0), (1, 0), (2, 0), (3, 0), (4, 0), (5, 0), (6, 1), (7, 0), (8, 0), (9, 0), (10, 2), (11, 1), (12, 0)]) .reg)))) .reg))))))
theorem q93 : AllN 2 fun l => ∀ m t s d k, R.denF i93 a93 (bodyOf Tryz.f93) Tryz.f93.results.toList e93.ps e93.rs l ⟨m, t, s, d⟩ k = wrapF 2 0 sf93 l ⟨m, t, s, d⟩ k := by
  intro x0 x1 m t s d k
  kernel_rfl
theorem ok93 : FunOK Tryz.prog 93 e93 := fun_ok facts mixed (I := i93) (FnsOK.cons ok105 (FnsOK.cons ok129 (FnsOK.cons ok130 (FnsOK.cons ok131 (FnsOK.cons ok132 FnsOK.nil))))) Tryz.func93 (by kernel_rfl) (by kernel_rfl) (by kernel_rfl) (an := a93) (by kernel_rfl) (by kernel_rfl) q93
def sf186 : FT 1 1 := fun a1 m t s d k=>
 force a1 fun v2=>
 force (ifB (beq (land (shiftRight v2 0) 18446744073709551615) 0) 1 0) fun v3=>
 k v3 m t s d
def e186 : FunE := ⟨[.agg (lay 179)], [.one .bool], wrapF 1 1 sf186⟩
def i186 : FI := ⟨6, [1], [1, 2], [], []⟩
def a186 : An := (.sq .reg (.sq .reg .ret))
theorem q186 : AllN 1 fun l => ∀ m t s d k, R.denF i186 a186 (bodyOf Tryz.f186) Tryz.f186.results.toList e186.ps e186.rs l ⟨m, t, s, d⟩ k = wrapF 1 1 sf186 l ⟨m, t, s, d⟩ k := by
  intro x0 m t s d k
  kernel_rfl
theorem ok186 : FunOK Tryz.prog 186 e186 := fun_ok facts mixed (I := i186) FnsOK.nil Tryz.func186 (by kernel_rfl) (by kernel_rfl) (by kernel_rfl) (an := a186) (by kernel_rfl) (by kernel_rfl) q186
def sf249 : FT 2 1 := fun a1 a2 m t s d k=>
 force (land (shiftRight a1 28) 131071) fun v3=>
 loopN 4 (fun (_ _ _ _ _ : Nat) => false) (fun L6 (p4 m5 t5 s5 d5 : Nat)=>
 ifB (ble (succ (xor p4 9223372036854775808)) (xor v3 9223372036854775808)) (
 okB (ble (succ p4) (land (shiftRight a1 28) 131071))<|
 okB (beq (land (shiftRight d5 (shiftRight (add (land a1 268435455) (mul p4 256)) 6)) 15) 0)<|
 ifB (beq (land a2 1023) 187) (
 force (land (shiftRight m5 (add (land a1 268435455) (mul p4 256))) (mask 4)) fun v7=>
 sf186 v7 m5 t5 s5 d5 fun r8 m9 t9 s9 d9=>
 ifB (beq r8 1) (
 k p4 m9 t9 s9 d9)<|
 false)<|
 false)<|
 false) 0 m t s d
def e249 : FunE := ⟨[.sli (lay 179), .one .fn], [.one (.int .i64)], wrapF 2 1 sf249⟩
def i249 : FI := ⟨19, [], [4, 5, 7, 8, 9, 16], [(186, e186)], [(16, [186])]⟩
def a249 : An := (.sq .reg (.sq (.sq .reg (.bl (.lp [(8, .sh (.one (.int .i64)))] 4 (.sq .reg (.sq (.cd .skip .dead) (.sq (.bl (.sq .reg (.sq .reg (.cd (.sq .reg .ret) .dead)))) .dead)))))) .dead))
theorem q249 : AllN 2 fun l => ∀ m t s d k, R.denF i249 a249 (bodyOf Tryz.f249) Tryz.f249.results.toList e249.ps e249.rs l ⟨m, t, s, d⟩ k = wrapF 2 1 sf249 l ⟨m, t, s, d⟩ k := by
  intro x0 x1 m t s d k
  kernel_rfl
theorem ok249 : FunOK Tryz.prog 249 e249 := fun_ok facts mixed (I := i249) (FnsOK.cons ok186 FnsOK.nil) Tryz.func249 (by kernel_rfl) (by kernel_rfl) (by kernel_rfl) (an := a249) (by kernel_rfl) (by kernel_rfl) q249
def sf184 : FT 2 1 := fun a1 a2 m t s d k=>
 sf249 a1 a2 m t s d fun r3 m4 t4 s4 d4=>
 ifB (beq r3 18446744073709551615) (
 false)<|
 join (fun (p5 m6 t6 s6 d6 : Nat)=>
 okB (ifB (ble p5 (land (shiftRight a1 28) 131071)) (ble (land (shiftRight a1 28) 131071) (land (shiftRight a1 45) 131071)) false)<|
 join (fun (m8 t8 s8 d8 : Nat)=>
 okB (ifB (ble 0 p5) (ble p5 (land (shiftRight a1 45) 131071)) false)<|
 force (ifB (beq (land a1 268435455) 0) a1 (ifB (beq (add (sub (land (shiftRight a1 45) 131071) 0) (shiftRight a1 62)) 0) 9223372036854775808 (add (land a1 268435455) (shiftLeft (add (sub p5 0) (shiftLeft (add (sub (land (shiftRight a1 45) 131071) 0) (shiftLeft (shiftRight a1 62) 17)) 17)) 28)))) fun v10=>
 k v10 m8 t8 s8 d8) fun J9=>
 clrR (ifB (beq (land a1 268435455) 0) a1 (ifB (beq (add (sub (land (shiftRight a1 45) 131071) p5) (shiftRight a1 62)) 0) 9223372036854775808 (add (add (land a1 268435455) (mul p5 256)) (shiftLeft (add (sub (land (shiftRight a1 28) 131071) p5) (shiftLeft (add (sub (land (shiftRight a1 45) 131071) p5) (shiftLeft (shiftRight a1 62) 17)) 17)) 28)))) 4 m6 t6 s6 d6 J9) fun J7=>
 force (mod (add r3 1) 18446744073709551616) fun v11=>
 loopN 36 (fun (_ _ _ _ _ _ : Nat) => false) (fun L15 (p12 p13 m14 t14 s14 d14 : Nat)=>
 ifB (ble (succ (xor p13 9223372036854775808)) (xor (land (shiftRight a1 28) 131071) 9223372036854775808)) (
 join (fun (p16 m17 t17 s17 d17 : Nat)=>
 force (mod (add p13 1) 18446744073709551616) fun v19=>
 L15 p16 v19 m17 t17 s17 d17) fun J18=>
 okB (ble (succ p13) (land (shiftRight a1 28) 131071))<|
 okB (beq (land (shiftRight d14 (shiftRight (add (land a1 268435455) (mul p13 256)) 6)) 15) 0)<|
 force (land (shiftRight m14 (add (land a1 268435455) (mul p13 256))) (mask 4)) fun v20=>
 ifB (beq (land a2 1023) 187) (
 force v20 fun v21=>
 sf186 v21 m14 t14 s14 d14 fun r22 m23 t23 s23 d23=>
 ifB (ifB (beq r22 1) false true) (
 okB (ble (succ p12) (land (shiftRight a1 28) 131071))<|
 okB (beq (land (shiftRight d23 (shiftRight (add (land a1 268435455) (mul p12 256)) 6)) 15) 0)<|
 force (xor (land (shiftRight m23 (add (land a1 268435455) (mul p12 256))) (mask 4)) v20) fun v24=>
 force (xor m23 (xor (shiftLeft v24 (add (land a1 268435455) (mul p12 256))) (mod (add v24 (add (land a1 268435455) (mul p12 256))) 2305843009213693951))) fun m25=>
 force (mod (add p12 1) 18446744073709551616) fun v26=>
 J18 v26 m25 t23 s23 d23)<|
 J18 p12 m23 t23 s23 d23)<|
 false)<|
 J7 p12 m14 t14 s14 d14) r3 v11 m4 t4 s4 d4
def e184 : FunE := ⟨[.sli (lay 179), .one .fn], [.sli (lay 179)], wrapF 2 1 sf184⟩
def i184 : FI := ⟨42, [7], [4, 5, 6, 7, 12, 19, 29], [(186, e186), (249, e249)], [(28, [186])]⟩
def a184 : An := (.sq .reg (.sq .reg (.sq (.sq .reg (.cd .dead .skip)) (.sj [(5, .sh (.one (.int .i64)))] (.sq .reg (.bl (.lp [(5, .sh (.one (.int .i64))), (6, .sh (.one (.int .i64)))] 36 (.sq (.sq .reg (.cd .skip .ex)) (.sj [(5, .sh (.one (.int .i64)))] (.bl (.sq .reg (.sq .reg (.cd (.sq .reg .reg) .skip)))) .reg))))) (.sq .reg (.sq .reg .ret))))))
theorem q184 : AllN 2 fun l => ∀ m t s d k, R.denF i184 a184 (bodyOf Tryz.f184) Tryz.f184.results.toList e184.ps e184.rs l ⟨m, t, s, d⟩ k = wrapF 2 1 sf184 l ⟨m, t, s, d⟩ k := by
  intro x0 x1 m t s d k
  kernel_rfl
theorem ok184 : FunOK Tryz.prog 184 e184 := fun_ok facts mixed (I := i184) (FnsOK.cons ok186 (FnsOK.cons ok249 FnsOK.nil)) Tryz.func184 (by kernel_rfl) (by kernel_rfl) (by kernel_rfl) (an := a184) (by kernel_rfl) (by kernel_rfl) q184
def sf185 : FT 1 1 := fun a1 m t s d k=>
 ifB (beq a1 0) (
 false)<|
 okB (beq (land (shiftRight d (shiftRight (land a1 268435455) 6)) (sub (shiftLeft 1 (mul (land (shiftRight a1 28) 131071) 4)) 1)) 0)<|
 join (fun (r2 m3 t3 s3 d3 : Nat)=>
 k r2 m3 t3 s3 d3) fun J4=>
 appR 4 (add (shiftLeft t 6) 4611686018427387904) (land (shiftRight a1 28) 131071) (land (shiftRight m (land a1 268435455)) (mask (mul (land (shiftRight a1 28) 131071) 4))) m t s d J4
def e185 : FunE := ⟨[.sli (lay 179)], [.sli (lay 179)], wrapF 1 1 sf185⟩
def i185 : FI := ⟨8, [], [2, 4], [], []⟩
def a185 : An := (.sq .reg (.sq (.sq .reg (.cd .dead .skip)) (.sq .reg .ret)))
theorem q185 : AllN 1 fun l => ∀ m t s d k, R.denF i185 a185 (bodyOf Tryz.f185) Tryz.f185.results.toList e185.ps e185.rs l ⟨m, t, s, d⟩ k = wrapF 1 1 sf185 l ⟨m, t, s, d⟩ k := by
  intro x0 m t s d k
  kernel_rfl
theorem ok185 : FunOK Tryz.prog 185 e185 := fun_ok facts mixed (I := i185) FnsOK.nil Tryz.func185 (by kernel_rfl) (by kernel_rfl) (by kernel_rfl) (an := a185) (by kernel_rfl) (by kernel_rfl) q185
def sf133 : FT 1 1 := fun a1 m t s d k=>
 okB (ifB (beq a1 0) false true)<|
 okB (ifB (ble 0 33) (ifB (ble 33 33) (ble (succ (add a1 128)) 134217728) false) false)<|
 force (add (add (add a1 128) 0) 4612847111564689408) fun v2=>
 sf185 v2 m t s d fun r3 m4 t4 s4 d4=>
 sf184 r3 187 m4 t4 s4 d4 fun r5 m6 t6 s6 d6=>
 k r5 m6 t6 s6 d6
def e133 : FunE := ⟨[.ptr (lay 188) false false], [.sli (lay 179)], wrapF 1 1 sf133⟩
def i133 : FI := ⟨9, [], [2], [(184, e184), (185, e185)], []⟩
def a133 : An := (.sq .reg (.sq .reg .ret))
theorem q133 : AllN 1 fun l => ∀ m t s d k, R.denF i133 a133 (bodyOf Tryz.f133) Tryz.f133.results.toList e133.ps e133.rs l ⟨m, t, s, d⟩ k = wrapF 1 1 sf133 l ⟨m, t, s, d⟩ k := by
  intro x0 m t s d k
  kernel_rfl
theorem ok133 : FunOK Tryz.prog 133 e133 := fun_ok facts mixed (I := i133) (FnsOK.cons ok184 (FnsOK.cons ok185 FnsOK.nil)) Tryz.func133 (by kernel_rfl) (by kernel_rfl) (by kernel_rfl) (an := a133) (by kernel_rfl) (by kernel_rfl) q133
def sf134 : FT 2 1 := fun a1 a2 m t s d k=>
 sf179 a2 m t s d fun r3 m4 t4 s4 d4=>
 okB (ifB (ifB (ifB (beq r3 1) false true) false true) (ifB (beq a1 0) false true) true)<|
 okB (ifB (ifB (ifB (beq r3 1) false true) false true) (ble (succ a2) 33) true)<|
 okB (ifB (ifB (beq r3 1) false true) true (ifB (ifB (beq r3 1) false true) false true))<|
 ifB (ifB (ifB (beq r3 1) false true) true (beq (land (shiftRight m4 (add (add a1 128) (mul a2 256))) 18446744073709551615) 0)) (
 false)<|
 okB (ifB (beq a1 0) false true)<|
 okB (ble (succ a2) 33)<|
 force (xor (land (shiftRight m4 (add (add a1 128) (mul a2 256))) (mask 4)) 0) fun v5=>
 force (xor m4 (xor (shiftLeft v5 (add (add a1 128) (mul a2 256))) (mod (add v5 (add (add a1 128) (mul a2 256))) 2305843009213693951))) fun m6=>
 force (ifB true 1 0) fun v7=>
 k v7 m6 t4 s4 d4
def e134 : FunE := ⟨[.ptr (lay 188) false false, .one (.int .i64)], [.one .bool], wrapF 2 1 sf134⟩
def i134 : FI := ⟨24, [], [4, 8, 17], [(179, e179)], []⟩
def a134 : An := (.sq .reg (.sq (.sq .reg (.cd .dead .skip)) (.sq .reg (.sq .reg .ret))))
theorem q134 : AllN 2 fun l => ∀ m t s d k, R.denF i134 a134 (bodyOf Tryz.f134) Tryz.f134.results.toList e134.ps e134.rs l ⟨m, t, s, d⟩ k = wrapF 2 1 sf134 l ⟨m, t, s, d⟩ k := by
  intro x0 x1 m t s d k
  kernel_rfl
theorem ok134 : FunOK Tryz.prog 134 e134 := fun_ok facts mixed (I := i134) (FnsOK.cons ok179 FnsOK.nil) Tryz.func134 (by kernel_rfl) (by kernel_rfl) (by kernel_rfl) (an := a134) (by kernel_rfl) (by kernel_rfl) q134
def sf94r : FT 2 1 := fun a1 a2 m t s d k=>
 join (fun (p3 m4 t4 s4 d4 : Nat)=>
 k p3 m4 t4 s4 d4) fun J5=>
 sf133 a1 m t s d fun r6 m7 t7 s7 d7=>
 force (land (shiftRight r6 28) 131071) fun v8=>
 loopN 5 (fun (_ _ _ _ _ _ : Nat) => false) (fun L12 (p9 p10 m11 t11 s11 d11 : Nat)=>
 ifB (ble (succ (xor p10 9223372036854775808)) (xor v8 9223372036854775808)) (
 join (fun (p13 m14 t14 s14 d14 : Nat)=>
 force (mod (add p10 1) 18446744073709551616) fun v16=>
 L12 p13 v16 m14 t14 s14 d14) fun J15=>
 okB (ble (succ p10) (land (shiftRight r6 28) 131071))<|
 okB (beq (land (shiftRight d11 (shiftRight (add (land r6 268435455) (mul p10 256)) 6)) 15) 0)<|
 force (land (shiftRight m11 (add (land r6 268435455) (mul p10 256))) (mask 4)) fun v17=>
 ifB (ifB (ble (succ a2) (land (shiftRight v17 192) 18446744073709551615)) false true) (
 force (land (shiftRight v17 0) 18446744073709551615) fun v18=>
 sf134 a1 v18 m11 t11 s11 d11 fun r19 m20 t20 s20 d20=>
 force (land (shiftRight v17 0) 18446744073709551615) fun v21=>
 join (fun (r22 m23 t23 s23 d23 : Nat)=>
 J15 r22 m23 t23 s23 d23) fun J24=>
 appR 1 p9 1 v21 m20 t20 s20 d20 J24)<|
 J15 p9 m11 t11 s11 d11)<|
 J5 p9 m11 t11 s11 d11) 0 0 m7 t7 s7 d7
def e94r : FunE := ⟨[.ptr (lay 188) false false, .one (.int .u64)], [.sli ([.int .i64])], wrapF 2 1 sf94r⟩
def i94r : FI := ⟨30, [7, 26], [4, 5, 7, 9, 10, 11, 12, 18], [(133, e133), (134, e134)], []⟩
def a94r : An := (.sq .reg (.sq .reg (.sj [(5, .sh (.sli ([.int .i64])))] (.sq .reg (.bl (.lp [(5, .sh (.sli ([.int .i64]))), (11, .sh (.one (.int .i64)))] 5 (.sq .reg (.sq (.cd .skip .ex) (.sj [(5, .sh (.sli ([.int .i64])))] (.bl (.sq .reg (.sq .reg (.cd (.sq .reg .reg) .skip)))) .reg)))))) (.sq .reg .ret))))
theorem q94r : AllN 2 fun l => ∀ m t s d k, R.denF i94r a94r (bodyOf Tryz.f94) Tryz.f94.results.toList e94r.ps e94r.rs l ⟨m, t, s, d⟩ k = wrapF 2 1 sf94r l ⟨m, t, s, d⟩ k := by
  intro x0 x1 m t s d k
  kernel_rfl
theorem ok94r : FunOK Tryz.prog 94 e94r := fun_ok facts mixed (I := i94r) (FnsOK.cons ok133 (FnsOK.cons ok134 FnsOK.nil)) Tryz.func94 (by kernel_rfl) (by kernel_rfl) (by kernel_rfl) (an := a94r) (by kernel_rfl) (by kernel_rfl) q94r
def sf94 : FT 2 1 := fun a0 a1 m t s d k=>
 sf94r a0 a1 m t s d fun r0 m1 t1 s1 d1=>
 ifB (ifB (ifB (beq r0 0) (true) false) (beq (shiftRight m 64) (shiftRight (land (shiftRight m1 0) (mask t)) 64)) false) (k r0 m t s1 (mod d1 (pow 2 t)))<|
 k r0 m1 t1 s1 d1
def e94 : FunE := ⟨[.ptr (lay 188) false false, .one (.int .u64)], [.sli ([.int .i64])], wrapF 2 1 sf94⟩
theorem q94 : AllN 2 fun l => ∀ m t s d k, resetF e94r.rs e94r.f l ⟨m, t, s, d⟩ k = wrapF 2 1 sf94 l ⟨m, t, s, d⟩ k := by
  intro x0 x1 m t s d k
  kernel_rfl
theorem ok94 : FunOK Tryz.prog 94 e94 := FunOK.wrap (FunOK.reset (ps := e94r.ps) (rs := e94r.rs) (F := e94r.f) ok94r) q94
def sf136 : FT 1 1 := fun a1 m t s d k=>
 force (shiftLeft t 6) fun v2=>
 force (add t 1) fun t3=>
 okB (ble (succ t3) 4194304)<|
 force (xor m (xor (shiftLeft a1 (shiftLeft t 6)) (mod (add a1 t) 2305843009213693951))) fun m4=>
 okB (ifB (beq v2 0) false (ble (succ v2) 268435456))<|
 force (add 193 (shiftLeft (shiftRight v2 6) 10)) fun v5=>
 k v5 m4 t3 s d
def e136 : FunE := ⟨[.sli ([.int .i64])], [.one .fn], wrapF 1 1 sf136⟩
def i136 : FI := ⟨4, [], [1, 2], [], []⟩
def a136 : An := (.sq .reg (.sq .reg .ret))
theorem q136 : AllN 1 fun l => ∀ m t s d k, R.denF i136 a136 (bodyOf Tryz.f136) Tryz.f136.results.toList e136.ps e136.rs l ⟨m, t, s, d⟩ k = wrapF 1 1 sf136 l ⟨m, t, s, d⟩ k := by
  intro x0 m t s d k
  kernel_rfl
theorem ok136 : FunOK Tryz.prog 136 e136 := fun_ok facts mixed (I := i136) FnsOK.nil Tryz.func136 (by kernel_rfl) (by kernel_rfl) (by kernel_rfl) (an := a136) (by kernel_rfl) (by kernel_rfl) q136
def sf137 : FT 3 0 := fun a1 a2 a3 m t s d k=>
 force a3 fun v4=>
 okB (ifB (beq a1 0) false true)<|
 okB (ifB (beq a1 0) false true)<|
 force (xor (land (shiftRight m (add a1 640)) (mask 5)) (xor (xor (land (shiftRight m a1) 18446744073709551615) (shiftLeft a2 128)) (shiftLeft v4 192))) fun v5=>
 force (xor m (xor (shiftLeft v5 (add a1 640)) (mod (add v5 (add a1 640)) 2305843009213693951))) fun m6=>
 okB (ifB (beq a1 0) false true)<|
 okB (ifB (beq a1 0) false true)<|
 force (land (shiftRight m6 (add a1 960)) 18446744073709551615) fun v7=>
 force (land (shiftRight m6 (add a1 640)) (mask 5)) fun v8=>
 sf53 v7 v8 m6 t s d fun r9 r10 m11 t11 s11 d11=>
 okB (ifB (beq a1 0) false true)<|
 force (land (shiftRight m11 (add a1 640)) (mask 5)) fun v12=>
 sf164 a1 v12 m11 t11 s11 d11 fun m13 t13 s13 d13=>
 k m13 t13 s13 d13
def e137 : FunE := ⟨[.ptr (lay 104) false false, .one (.int .u32), .agg (lay 44)], [], wrapF 3 0 sf137⟩
def i137 : FI := ⟨32, [5], [5], [(53, e53), (164, e164)], []⟩
def a137 : An := (.sq .reg (.sq (.drw [(0, 0), (1, 0), (2, 0), (3, 0), (4, 0), (5, 0), (6, 0), (7, 0), (8, 0), (9, 0), (10, 0), (11, 1)]) (.sq (.drw [(0, 0), (1, 0), (2, 0), (3, 0), (4, 0), (5, 0), (6, 0), (7, 0), (8, 1)]) .reg)))
theorem q137 : AllN 3 fun l => ∀ m t s d k, R.denF i137 a137 (bodyOf Tryz.f137) Tryz.f137.results.toList e137.ps e137.rs l ⟨m, t, s, d⟩ k = wrapF 3 0 sf137 l ⟨m, t, s, d⟩ k := by
  intro x0 x1 x2 m t s d k
  kernel_rfl
theorem ok137 : FunOK Tryz.prog 137 e137 := fun_ok facts mixed (I := i137) (FnsOK.cons ok53 (FnsOK.cons ok164 FnsOK.nil)) Tryz.func137 (by kernel_rfl) (by kernel_rfl) (by kernel_rfl) (an := a137) (by kernel_rfl) (by kernel_rfl) q137
def sf95 : FT 2 0 := fun a1 a2 m t s d k=>
 force a1 fun v3=>
 okB (ifB (beq v3 0) false true)<|
 force (land (shiftRight m (add v3 1664)) 18446744073709551615) fun v4=>
 sf91 v4 m t s d fun r5 m6 t6 s6 d6=>
 ifB (beq r5 1) (
 okB (ifB (beq v3 0) false true)<|
 false)<|
 ifB (beq r5 2) (
 force v3 fun v7=>
 sf128 v7 a2 m6 t6 s6 d6 fun r8 m9 t9 s9 d9=>
 sf136 r8 m9 t9 s9 d9 fun r10 m11 t11 s11 d11=>
 okB (beq (land r10 1023) 193)<|
 force (land (shiftRight m11 (shiftLeft (land (shiftRight r10 10) 4194303) 6)) 18446744073709551615) fun v12=>
 ifB (beq (land (shiftRight v12 28) 131071) 0) (
 force 0 fun v34=>
 sf57 v34 m11 t11 s11 d11 fun r35 m36 t36 s36 d36=>
 okB (ifB (ifB (beq r35 1) false true) (ifB (beq v3 0) false true) true)<|
 okB (ifB (ifB (beq r35 1) false true) (ifB (beq r35 1) false true) true)<|
 okB (ifB (ifB (ifB (beq r35 1) false true) (ifB (beq 0 (land (shiftRight m36 (add (add v3 640) 192)) 340282366920938463463374607431768211455)) false true) false) (ifB (beq v3 0) false true) true)<|
 okB (ifB (ifB (ifB (beq r35 1) false true) (ifB (beq 0 (land (shiftRight m36 (add (add v3 640) 192)) 340282366920938463463374607431768211455)) false true) false) (ifB (ifB (beq r35 1) false true) (ifB (beq 0 (land (shiftRight m36 (add (add v3 640) 192)) 340282366920938463463374607431768211455)) false true) false) true)<|
 ifB (ifB (ifB (ifB (beq r35 1) false true) (ifB (beq 0 (land (shiftRight m36 (add (add v3 640) 192)) 340282366920938463463374607431768211455)) false true) false) (ble (succ (land (shiftRight m36 (add (add v3 640) 128)) 18446744073709551615)) 4294967295) false) (
 okB (ifB (beq v3 0) false true)<|
 force v3 fun v37=>
 force (mod (add (land (shiftRight m36 (add (add v3 640) 128)) 18446744073709551615) 1) 4294967296) fun v38=>
 force 0 fun v39=>
 sf137 v37 v38 v39 m36 t36 s36 d36 fun m40 t40 s40 d40=>
 k m40 t40 s40 d40)<|
 k m36 t36 s36 d36)<|
 okB (beq (land (shiftRight v12 28) 131071) 1)<|
 okB (beq (land (shiftRight d11 (shiftRight (land v12 268435455) 6)) 1) 0)<|
 force (land (shiftRight m11 (land v12 268435455)) 18446744073709551615) fun v13=>
 force v3 fun v14=>
 sf121 v14 v13 m11 t11 s11 d11 fun r15 r16 m17 t17 s17 d17=>
 force r15 fun v18=>
 ifB (beq r16 1) (
 force (land (shiftRight v18 64) 340282366920938463463374607431768211455) fun v19=>
 force v19 fun v20=>
 sf57 v20 m17 t17 s17 d17 fun r21 m22 t22 s22 d22=>
 okB (ifB (ifB (beq r21 1) false true) (ifB (beq v3 0) false true) true)<|
 okB (ifB (ifB (beq r21 1) false true) (ifB (beq r21 1) false true) true)<|
 okB (ifB (ifB (ifB (beq r21 1) false true) (ifB (beq v19 (land (shiftRight m22 (add (add v3 640) 192)) 340282366920938463463374607431768211455)) false true) false) (ifB (beq v3 0) false true) true)<|
 okB (ifB (ifB (ifB (beq r21 1) false true) (ifB (beq v19 (land (shiftRight m22 (add (add v3 640) 192)) 340282366920938463463374607431768211455)) false true) false) (ifB (ifB (beq r21 1) false true) (ifB (beq v19 (land (shiftRight m22 (add (add v3 640) 192)) 340282366920938463463374607431768211455)) false true) false) true)<|
 ifB (ifB (ifB (ifB (beq r21 1) false true) (ifB (beq v19 (land (shiftRight m22 (add (add v3 640) 192)) 340282366920938463463374607431768211455)) false true) false) (ble (succ (land (shiftRight m22 (add (add v3 640) 128)) 18446744073709551615)) 4294967295) false) (
 okB (ifB (beq v3 0) false true)<|
 force v3 fun v23=>
 force (mod (add (land (shiftRight m22 (add (add v3 640) 128)) 18446744073709551615) 1) 4294967296) fun v24=>
 force v19 fun v25=>
 sf137 v23 v24 v25 m22 t22 s22 d22 fun m26 t26 s26 d26=>
 k m26 t26 s26 d26)<|
 k m22 t22 s22 d22)<|
 force 0 fun v27=>
 sf57 v27 m17 t17 s17 d17 fun r28 m29 t29 s29 d29=>
 okB (ifB (ifB (beq r28 1) false true) (ifB (beq v3 0) false true) true)<|
 okB (ifB (ifB (beq r28 1) false true) (ifB (beq r28 1) false true) true)<|
 okB (ifB (ifB (ifB (beq r28 1) false true) (ifB (beq 0 (land (shiftRight m29 (add (add v3 640) 192)) 340282366920938463463374607431768211455)) false true) false) (ifB (beq v3 0) false true) true)<|
 okB (ifB (ifB (ifB (beq r28 1) false true) (ifB (beq 0 (land (shiftRight m29 (add (add v3 640) 192)) 340282366920938463463374607431768211455)) false true) false) (ifB (ifB (beq r28 1) false true) (ifB (beq 0 (land (shiftRight m29 (add (add v3 640) 192)) 340282366920938463463374607431768211455)) false true) false) true)<|
 ifB (ifB (ifB (ifB (beq r28 1) false true) (ifB (beq 0 (land (shiftRight m29 (add (add v3 640) 192)) 340282366920938463463374607431768211455)) false true) false) (ble (succ (land (shiftRight m29 (add (add v3 640) 128)) 18446744073709551615)) 4294967295) false) (
 okB (ifB (beq v3 0) false true)<|
 force v3 fun v30=>
 force (mod (add (land (shiftRight m29 (add (add v3 640) 128)) 18446744073709551615) 1) 4294967296) fun v31=>
 force 0 fun v32=>
 sf137 v30 v31 v32 m29 t29 s29 d29 fun m33 t33 s33 d33=>
 k m33 t33 s33 d33)<|
 k m29 t29 s29 d29)<|
 force 0 fun v41=>
 sf57 v41 m6 t6 s6 d6 fun r42 m43 t43 s43 d43=>
 okB (ifB (ifB (beq r42 1) false true) (ifB (beq v3 0) false true) true)<|
 okB (ifB (ifB (beq r42 1) false true) (ifB (beq r42 1) false true) true)<|
 okB (ifB (ifB (ifB (beq r42 1) false true) (ifB (beq 0 (land (shiftRight m43 (add (add v3 640) 192)) 340282366920938463463374607431768211455)) false true) false) (ifB (beq v3 0) false true) true)<|
 okB (ifB (ifB (ifB (beq r42 1) false true) (ifB (beq 0 (land (shiftRight m43 (add (add v3 640) 192)) 340282366920938463463374607431768211455)) false true) false) (ifB (ifB (beq r42 1) false true) (ifB (beq 0 (land (shiftRight m43 (add (add v3 640) 192)) 340282366920938463463374607431768211455)) false true) false) true)<|
 ifB (ifB (ifB (ifB (beq r42 1) false true) (ifB (beq 0 (land (shiftRight m43 (add (add v3 640) 192)) 340282366920938463463374607431768211455)) false true) false) (ble (succ (land (shiftRight m43 (add (add v3 640) 128)) 18446744073709551615)) 4294967295) false) (
 okB (ifB (beq v3 0) false true)<|
 force v3 fun v44=>
 force (mod (add (land (shiftRight m43 (add (add v3 640) 128)) 18446744073709551615) 1) 4294967296) fun v45=>
 force 0 fun v46=>
 sf137 v44 v45 v46 m43 t43 s43 d43 fun m47 t47 s47 d47=>
 k m47 t47 s47 d47)<|
 k m43 t43 s43 d43
def e95 : FunE := ⟨[.ptr (lay 104) false false, .one (.int .u64)], [], wrapF 2 0 sf95⟩
def i95 : FI := ⟨71, [2, 4, 7], [2, 4, 13, 14, 16, 25, 45, 54, 61], [(57, e57), (91, e91), (121, e121), (128, e128), (135, ⟨[.ptr (lay 183) false false, .one (.int .u64)], [.agg (lay 44), .one .bool], fun _ _ _ => false⟩), (136, e136), (137, e137)], []⟩
theorem q95 : AllN 2 fun l => ∀ m t s d k, R.F95 i95 e95.ps [(0, 0), (1, 1), (2, 0), (3, 0), (4, 0), (5, 0), (6, 0), (7, 0), (8, 0), (9, 0), (10, 0), (11, 0), (12, 0), (13, 0), (14, 0), (15, 0), (16, 0), (17, 0), (18, 0), (19, 0)] [(0, 0), (1, 0), (2, 0), (3, 0), (4, 0), (5, 0), (6, 0), (7, 0), (8, 1)] l ⟨m, t, s, d⟩ k = wrapF 2 0 sf95 l ⟨m, t, s, d⟩ k := by
  intro x0 x1 m t s d k
  kernel_rfl
theorem ok95 : FunOK Tryz.prog 95 e95 := fun95_ok facts mixed (I := i95) (FnsOK.cons ok57 (FnsOK.cons ok91 (FnsOK.cons ok121 (FnsOK.cons ok128 (FnsOK.cons FunOK.dead (FnsOK.cons ok136 (FnsOK.cons ok137 FnsOK.nil))))))) (by kernel_rfl) (ps := e95.ps) (rs := e95.rs) (by kernel_rfl) rfl [(0, 0), (1, 1), (2, 0), (3, 0), (4, 0), (5, 0), (6, 0), (7, 0), (8, 0), (9, 0), (10, 0), (11, 0), (12, 0), (13, 0), (14, 0), (15, 0), (16, 0), (17, 0), (18, 0), (19, 0)] [(0, 0), (1, 0), (2, 0), (3, 0), (4, 0), (5, 0), (6, 0), (7, 0), (8, 1)] q95
def sf96 : FT 1 1 := fun a1 m t s d k=>
 okB (ifB (beq a1 0) false true)<|
 force (land (shiftRight m (add a1 2240)) 18446744073709551615) fun v2=>
 okB (ifB (beq a1 0) false true)<|
 force (xor (land (shiftRight m (add a1 2240)) 18446744073709551615) 0) fun v3=>
 force (xor m (xor (shiftLeft v3 (add a1 2240)) (mod (add v3 (add a1 2240)) 2305843009213693951))) fun m4=>
 k v2 m4 t s d
def e96 : FunE := ⟨[.ptr (lay 104) false false], [.sli (lay 210)], wrapF 1 1 sf96⟩
def i96 : FI := ⟨12, [], [2, 3], [], []⟩
def a96 : An := (.sq .reg (.sq .reg (.sq .reg (.sq .reg .ret))))
theorem q96 : AllN 1 fun l => ∀ m t s d k, R.denF i96 a96 (bodyOf Tryz.f96) Tryz.f96.results.toList e96.ps e96.rs l ⟨m, t, s, d⟩ k = wrapF 1 1 sf96 l ⟨m, t, s, d⟩ k := by
  intro x0 m t s d k
  kernel_rfl
theorem ok96 : FunOK Tryz.prog 96 e96 := fun_ok facts mixed (I := i96) FnsOK.nil Tryz.func96 (by kernel_rfl) (by kernel_rfl) (by kernel_rfl) (an := a96) (by kernel_rfl) (by kernel_rfl) q96
def sf62 : FT 2 1 := fun a1 a2 m t s d k=>
 okB (ifB (beq a1 0) false true)<|
 force (land (shiftRight m (add a1 2112)) 18446744073709551615) fun v3=>
 okB (ifB (beq v3 1) true (ifB (beq v3 1) false true))<|
 ifB (ifB (beq v3 1) true (ble 4611686018427387905 a2)) (
 k 0 m t s d)<|
 okB (ifB (beq a1 0) false true)<|
 force (xor (land (shiftRight m (add a1 2304)) 18446744073709551615) a2) fun v4=>
 force (xor m (xor (shiftLeft v4 (add a1 2304)) (mod (add v4 (add a1 2304)) 2305843009213693951))) fun m5=>
 sf87 a1 a2 m5 t s d fun m6 t6 s6 d6=>
 sf88 a1 a2 m6 t6 s6 d6 fun m7 t7 s7 d7=>
 okB (ifB (beq a1 0) false true)<|
 join (fun (m8 t8 s8 d8 : Nat)=>
 join (fun (m10 t10 s10 d10 : Nat)=>
 sf93 a1 a2 m10 t10 s10 d10 fun m12 t12 s12 d12=>
 okB (ifB (beq a1 0) false true)<|
 force (land (shiftRight m12 (add a1 1728)) 18446744073709551615) fun v13=>
 sf94 v13 a2 m12 t12 s12 d12 fun r14 m15 t15 s15 d15=>
 join (fun (m16 t16 s16 d16 : Nat)=>
 sf96 a1 m16 t16 s16 d16 fun r18 m19 t19 s19 d19=>
 k r18 m19 t19 s19 d19) fun J17=>
 sf90 a1 m15 t15 s15 d15 fun r20 m21 t21 s21 d21=>
 ifB (ifB (beq r20 1) false true) (
 sf95 a1 a2 m21 t21 s21 d21 fun m22 t22 s22 d22=>
 J17 m22 t22 s22 d22)<|
 J17 m21 t21 s21 d21) fun J11=>
 sf90 a1 m8 t8 s8 d8 fun r23 m24 t24 s24 d24=>
 okB (ifB (ifB (beq r23 1) false true) (ifB (beq a1 0) false true) true)<|
 join (fun (r25 m26 t26 s26 d26 : Nat)=>
 okB (ifB (ifB (beq r23 1) false true) (ifB (beq r23 1) false true) true)<|
 ifB (ifB (ifB (beq r23 1) false true) (beq r25 2) false) (
 force (ifB (ifB (ble (succ a2) (land (shiftRight m7 (add a1 2048)) 18446744073709551615)) false true) 1 0) fun v28=>
 sf92 a1 a2 v28 m26 t26 s26 d26 fun m29 t29 s29 d29=>
 J11 m29 t29 s29 d29)<|
 J11 m26 t26 s26 d26) fun J27=>
 ifB (ifB (beq r23 1) false true) (
 force (land (shiftRight m24 (add a1 1664)) 18446744073709551615) fun v30=>
 sf91 v30 m24 t24 s24 d24 fun r31 m32 t32 s32 d32=>
 J27 r31 m32 t32 s32 d32)<|
 J27 0 m24 t24 s24 d24) fun J9=>
 ifB (ifB (ble (succ a2) (land (shiftRight m7 (add a1 2048)) 18446744073709551615)) false true) (
 sf89 a1 a2 m7 t7 s7 d7 fun m33 t33 s33 d33=>
 J9 m33 t33 s33 d33)<|
 J9 m7 t7 s7 d7
def e62 : FunE := ⟨[.ptr (lay 104) false false, .one (.int .u64)], [.sli (lay 210)], wrapF 2 1 sf62⟩
def i62 : FI := ⟨66, [], [4, 5, 10, 13, 30, 37, 44, 60], [(87, e87), (88, e88), (89, e89), (90, e90), (91, e91), (92, e92), (93, e93), (94, e94), (95, e95), (96, e96)], []⟩
def a62 : An := (.sq .reg (.sq (.sq .reg (.cd (.sq .reg .ret) .skip)) (.sq .reg (.sq .reg (.sq .reg (.sq .reg (.sj [] (.sq .reg (.cd .reg .skip)) (.sj [] (.sq .reg (.cd .reg .skip)) (.sq .reg (.sq .reg (.sj [] (.sq .reg (.cd .reg .skip)) (.sq .reg .ret))))))))))))
theorem q62 : AllN 2 fun l => ∀ m t s d k, R.denF i62 a62 (bodyOf Tryz.f62) Tryz.f62.results.toList e62.ps e62.rs l ⟨m, t, s, d⟩ k = wrapF 2 1 sf62 l ⟨m, t, s, d⟩ k := by
  intro x0 x1 m t s d k
  kernel_rfl
theorem ok62 : FunOK Tryz.prog 62 e62 := fun_ok facts mixed (I := i62) (FnsOK.cons ok87 (FnsOK.cons ok88 (FnsOK.cons ok89 (FnsOK.cons ok90 (FnsOK.cons ok91 (FnsOK.cons ok92 (FnsOK.cons ok93 (FnsOK.cons ok94 (FnsOK.cons ok95 (FnsOK.cons ok96 FnsOK.nil)))))))))) Tryz.func62 (by kernel_rfl) (by kernel_rfl) (by kernel_rfl) (an := a62) (by kernel_rfl) (by kernel_rfl) q62
def sf24 : FT 2 1 := fun a1 a2 m t s d k=>
 force a2 fun v3=>
 okB (ifB (beq a1 0) false true)<|
 okB (ifB (beq a1 0) false true)<|
 force (xor (land (shiftRight m (add a1 512)) 18446744073709551615) (ifB (ble (succ (mod (add (land (shiftRight m (add a1 512)) 18446744073709551615) 1) 18446744073709551616)) 2305843009213693952) (mod (add (land (shiftRight m (add a1 512)) 18446744073709551615) 1) 18446744073709551616) 2305843009213693952)) fun v4=>
 force (xor m (xor (shiftLeft v4 (add a1 512)) (mod (add v4 (add a1 512)) 2305843009213693951))) fun m5=>
 join (fun (m6 t6 s6 d6 : Nat)=>
 k 0 m6 t6 s6 d6) fun J7=>
 okB (ifB (beq a1 0) false true)<|
 force (land (shiftRight (land (shiftRight m5 (add a1 640)) 18446744073709551615) 28) 131071) fun v8=>
 loopN 6 (fun (_ _ _ _ _ : Nat) => false) (fun L11 (p9 m10 t10 s10 d10 : Nat)=>
 ifB (ble (succ (xor p9 9223372036854775808)) (xor v8 9223372036854775808)) (
 join (fun (m12 t12 s12 d12 : Nat)=>
 force (mod (add p9 1) 18446744073709551616) fun v14=>
 L11 v14 m12 t12 s12 d12) fun J13=>
 okB (ifB (beq a1 0) false true)<|
 okB (ble (succ p9) (land (shiftRight (land (shiftRight m10 (add a1 640)) 18446744073709551615) 28) 131071))<|
 okB (beq (land (shiftRight d10 (shiftRight (add (add (land (land (shiftRight m10 (add a1 640)) 18446744073709551615) 268435455) (mul p9 256)) 64) 6)) 1) 0)<|
 force (land (shiftRight m10 (add (add (land (land (shiftRight m10 (add a1 640)) 18446744073709551615) 268435455) (mul p9 256)) 64)) 18446744073709551615) fun v15=>
 ifB (beq v15 1) (
 okB (ifB (beq a1 0) false true)<|
 okB (ble (succ p9) (land (shiftRight (land (shiftRight m10 (add a1 640)) 18446744073709551615) 28) 131071))<|
 okB (beq (land (shiftRight d10 (shiftRight (add (land (land (shiftRight m10 (add a1 640)) 18446744073709551615) 268435455) (mul p9 256)) 6)) 1) 0)<|
 okB (ifB (beq a1 0) false true)<|
 force (land (shiftRight m10 (add (land (land (shiftRight m10 (add a1 640)) 18446744073709551615) 268435455) (mul p9 256))) 18446744073709551615) fun v16=>
 force (land (shiftRight m10 (add a1 512)) 18446744073709551615) fun v17=>
 sf62 v16 v17 m10 t10 s10 d10 fun r18 m19 t19 s19 d19=>
 force (mod (add p9 1) 18446744073709551616) fun v20=>
 sf61 a1 v20 r18 m19 t19 s19 d19 fun m21 t21 s21 d21=>
 J13 m21 t21 s21 d21)<|
 J13 m10 t10 s10 d10)<|
 J7 m10 t10 s10 d10) 0 m5 t s d
def e24 : FunE := ⟨[.ptr (lay 65) false false, .agg (lay 46)], [.one (.int .i64)], wrapF 2 1 sf24⟩
def i24 : FI := ⟨49, [3], [4, 5, 19, 20, 21, 30], [(61, e61), (62, e62)], []⟩
def a24 : An := (.sq .reg (.sq .reg (.sj [] (.sq .reg (.bl (.lp [(20, .sh (.one (.int .i64)))] 6 (.sq .reg (.sq (.cd .skip .ex) (.sj [] (.bl (.sq .reg (.sq .reg (.cd (.drw [(0, 0), (1, 0), (2, 0), (3, 0), (4, 0), (5, 0), (6, 0), (7, 0), (8, 0), (9, 0), (10, 0), (11, 0), (12, 0), (13, 0), (14, 0), (15, 1), (16, 1)]) .skip)))) .reg)))))) (.sq .reg .ret))))
theorem q24 : AllN 2 fun l => ∀ m t s d k, R.denF i24 a24 (bodyOf Tryz.f24) Tryz.f24.results.toList e24.ps e24.rs l ⟨m, t, s, d⟩ k = wrapF 2 1 sf24 l ⟨m, t, s, d⟩ k := by
  intro x0 x1 m t s d k
  kernel_rfl
theorem ok24 : FunOK Tryz.prog 24 e24 := fun_ok facts mixed (I := i24) (FnsOK.cons ok61 (FnsOK.cons ok62 FnsOK.nil)) Tryz.func24 (by kernel_rfl) (by kernel_rfl) (by kernel_rfl) (an := a24) (by kernel_rfl) (by kernel_rfl) q24
def sf12 : FT 2 1 := fun a1 a2 m t s d k=>
 sf39 a1 a2 m t s d fun r3 m4 t4 s4 d4=>
 ifB (ifB (beq r3 0) false true) (
 okB (ifB (beq r3 0) false true)<|
 okB (beq (land (shiftRight d4 (shiftRight r3 6)) 1) 0)<|
 force (land (shiftRight m4 r3) 18446744073709551615) fun v5=>
 k v5 m4 t4 s4 d4)<|
 false
def e12 : FunE := ⟨[.ptr (lay 65) false false, .one (.int .i64)], [.ptr (lay 104) false false], wrapF 2 1 sf12⟩
def i12 : FI := ⟨15, [], [4, 5, 10], [(39, e39)], []⟩
def a12 : An := (.sq .reg (.sq (.sq .reg (.sq .reg (.cd (.sq .reg .ret) .dead))) .dead))
theorem q12 : AllN 2 fun l => ∀ m t s d k, R.denF i12 a12 (bodyOf Tryz.f12) Tryz.f12.results.toList e12.ps e12.rs l ⟨m, t, s, d⟩ k = wrapF 2 1 sf12 l ⟨m, t, s, d⟩ k := by
  intro x0 x1 m t s d k
  kernel_rfl
theorem ok12 : FunOK Tryz.prog 12 e12 := fun_ok facts mixed (I := i12) (FnsOK.cons ok39 FnsOK.nil) Tryz.func12 (by kernel_rfl) (by kernel_rfl) (by kernel_rfl) (an := a12) (by kernel_rfl) (by kernel_rfl) q12
def sf37 : FT 2 1 := fun a1 a2 m t s d k=>
 join (fun (p3 m4 t4 s4 d4 : Nat)=>
 k p3 m4 t4 s4 d4) fun J5=>
 okB (ifB (beq a1 0) false true)<|
 force (land (shiftRight m a1) 18446744073709551615) fun v6=>
 force (land (shiftRight v6 28) 131071) fun v7=>
 loopN 16 (fun (_ _ _ _ _ _ : Nat) => false) (fun L11 (p8 p9 m10 t10 s10 d10 : Nat)=>
 ifB (ble (succ (xor p9 9223372036854775808)) (xor v7 9223372036854775808)) (
 join (fun (p12 m13 t13 s13 d13 : Nat)=>
 force (mod (add p9 1) 18446744073709551616) fun v15=>
 L11 p12 v15 m13 t13 s13 d13) fun J14=>
 okB (ble (succ p9) (land (shiftRight v6 28) 131071))<|
 okB (beq (land (shiftRight d10 (shiftRight (add (land v6 268435455) (mul p9 384)) 6)) 63) 0)<|
 force (land (shiftRight m10 (add (land v6 268435455) (mul p9 384))) (mask 6)) fun v16=>
 ifB (ifB (ble (succ a2) (land (shiftRight v16 320) 18446744073709551615)) false true) (
 force (mod (add p8 1) 18446744073709551616) fun v17=>
 J14 v17 m10 t10 s10 d10)<|
 J14 p8 m10 t10 s10 d10)<|
 J5 p8 m10 t10 s10 d10) 0 0 m t s d
def e37 : FunE := ⟨[.ptr (lay 157) false false, .one (.int .u64)], [.one (.int .i64)], wrapF 2 1 sf37⟩
def i37 : FI := ⟨25, [7], [4, 5, 7, 11, 12, 13, 14, 20], [], []⟩
def a37 : An := (.sq .reg (.sq .reg (.sj [(5, .sh (.one (.int .i64)))] (.sq .reg (.bl (.lp [(5, .sh (.one (.int .i64))), (13, .sh (.one (.int .i64)))] 16 (.sq .reg (.sq (.cd .skip .ex) (.sj [(5, .sh (.one (.int .i64)))] (.bl (.sq .reg (.sq .reg (.cd .reg .skip)))) .reg)))))) (.sq .reg .ret))))
theorem q37 : AllN 2 fun l => ∀ m t s d k, R.denF i37 a37 (bodyOf Tryz.f37) Tryz.f37.results.toList e37.ps e37.rs l ⟨m, t, s, d⟩ k = wrapF 2 1 sf37 l ⟨m, t, s, d⟩ k := by
  intro x0 x1 m t s d k
  kernel_rfl
theorem ok37 : FunOK Tryz.prog 37 e37 := fun_ok facts mixed (I := i37) FnsOK.nil Tryz.func37 (by kernel_rfl) (by kernel_rfl) (by kernel_rfl) (an := a37) (by kernel_rfl) (by kernel_rfl) q37
def sf144 : FT 3 2 := fun a1 a2 a3 m t s d k=>
 sf37 a1 a2 m t s d fun r4 m5 t5 s5 d5=>
 ifB (ble (succ (xor a3 9223372036854775808)) 9223372036854775808) (
 false)<|
 ifB (beq r4 0) (
 false)<|
 okB (ifB (ble (succ a3) 9223372036854775808) (ifB (ble (succ r4) 9223372036854775808) (ble 1 r4) false) false)<|
 force (mod a3 r4) fun v6=>
 okB (ifB (beq a1 0) false true)<|
 okB (ble 1 (land (shiftRight (land (shiftRight m5 a1) 18446744073709551615) 28) 131071))<|
 okB (beq (land (shiftRight d5 (shiftRight (add (add (land (land (shiftRight m5 a1) 18446744073709551615) 268435455) 0) 320) 6)) 1) 0)<|
 ifB (ble (succ a2) (land (shiftRight m5 (add (add (land (land (shiftRight m5 a1) 18446744073709551615) 268435455) 0) 320)) 18446744073709551615)) (
 false)<|
 ifB (ble 9223372036854775809 (xor v6 9223372036854775808)) (
 false)<|
 k 0 0 m5 t5 s5 d5
def e144 : FunE := ⟨[.ptr (lay 157) false false, .one (.int .u64), .one (.int .i64)], [.one (.int .i64), .one (.int .i64)], wrapF 3 2 sf144⟩
def i144 : FI := ⟨38, [], [2, 6, 7, 8, 13, 15, 28, 32], [(37, e37)], []⟩
def a144 : An := (.sq .reg (.sc (.sq .reg (.sq (.sq .reg (.cd .dead .skip)) (.sq (.sq .reg (.cd .dead .skip)) (.sq .reg (.sq .skip (.sq (.sq .reg (.cd .dead .skip)) (.sq (.sq .reg (.cd .dead .skip)) (.sq .reg .ret))))))))))
theorem q144 : AllN 3 fun l => ∀ m t s d k, R.denF i144 a144 (bodyOf Tryz.f144) Tryz.f144.results.toList e144.ps e144.rs l ⟨m, t, s, d⟩ k = wrapF 3 2 sf144 l ⟨m, t, s, d⟩ k := by
  intro x0 x1 x2 m t s d k
  kernel_rfl
theorem ok144 : FunOK Tryz.prog 144 e144 := fun_ok facts mixed (I := i144) (FnsOK.cons ok37 FnsOK.nil) Tryz.func144 (by kernel_rfl) (by kernel_rfl) (by kernel_rfl) (an := a144) (by kernel_rfl) (by kernel_rfl) q144
def sf193 : FT 3 1 := fun a1 a2 a3 m t s d k=>
 okB (ifB (ble a2 a3) (ifB (ble a3 (land (shiftRight a1 28) 131071)) (ble (land (shiftRight a1 28) 131071) (land (shiftRight a1 45) 131071)) false) false)<|
 ifB (beq a2 a3) (
 false)<|
 force (land (shiftRight a1 28) 131071) fun v4=>
 okB (ifB (ble 0 a2) (ble a2 (land (shiftRight a1 45) 131071)) false)<|
 okB (ifB (ble a3 (land (shiftRight a1 28) 131071)) (ble (land (shiftRight a1 28) 131071) (land (shiftRight a1 45) 131071)) false)<|
 okB (beq (land (shiftRight d (shiftRight (land (ifB (beq (land a1 268435455) 0) a1 (ifB (beq (add (sub (land (shiftRight a1 45) 131071) a3) (shiftRight a1 62)) 0) 9223372036854775808 (add (add (land a1 268435455) (mul a3 384)) (shiftLeft (add (sub (land (shiftRight a1 28) 131071) a3) (shiftLeft (add (sub (land (shiftRight a1 45) 131071) a3) (shiftLeft (shiftRight a1 62) 17)) 17)) 28)))) 268435455) 6)) (sub (shiftLeft 1 (mul (land (shiftRight (ifB (beq (land a1 268435455) 0) a1 (ifB (beq (add (sub (land (shiftRight a1 45) 131071) a3) (shiftRight a1 62)) 0) 9223372036854775808 (add (add (land a1 268435455) (mul a3 384)) (shiftLeft (add (sub (land (shiftRight a1 28) 131071) a3) (shiftLeft (add (sub (land (shiftRight a1 45) 131071) a3) (shiftLeft (shiftRight a1 62) 17)) 17)) 28)))) 28) 131071) 6)) 1)) 0)<|
 join (fun (r5 m6 t6 s6 d6 : Nat)=>
 okB (ifB (ble (land (shiftRight r5 28) 131071) v4) (ble v4 (land (shiftRight r5 45) 131071)) false)<|
 join (fun (m8 t8 s8 d8 : Nat)=>
 k r5 m8 t8 s8 d8) fun J9=>
 clrR (ifB (beq (land r5 268435455) 0) r5 (ifB (beq (add (sub (land (shiftRight r5 45) 131071) (land (shiftRight r5 28) 131071)) (shiftRight r5 62)) 0) 9223372036854775808 (add (add (land r5 268435455) (mul (land (shiftRight r5 28) 131071) 384)) (shiftLeft (add (sub v4 (land (shiftRight r5 28) 131071)) (shiftLeft (add (sub (land (shiftRight r5 45) 131071) (land (shiftRight r5 28) 131071)) (shiftLeft (shiftRight r5 62) 17)) 17)) 28)))) 6 m6 t6 s6 d6 J9) fun J7=>
 appR 6 (ifB (beq (land a1 268435455) 0) a1 (ifB (beq (add (sub (land (shiftRight a1 45) 131071) 0) (shiftRight a1 62)) 0) 9223372036854775808 (add (land a1 268435455) (shiftLeft (add (sub a2 0) (shiftLeft (add (sub (land (shiftRight a1 45) 131071) 0) (shiftLeft (shiftRight a1 62) 17)) 17)) 28)))) (land (shiftRight (ifB (beq (land a1 268435455) 0) a1 (ifB (beq (add (sub (land (shiftRight a1 45) 131071) a3) (shiftRight a1 62)) 0) 9223372036854775808 (add (add (land a1 268435455) (mul a3 384)) (shiftLeft (add (sub (land (shiftRight a1 28) 131071) a3) (shiftLeft (add (sub (land (shiftRight a1 45) 131071) a3) (shiftLeft (shiftRight a1 62) 17)) 17)) 28)))) 28) 131071) (land (shiftRight m (land (ifB (beq (land a1 268435455) 0) a1 (ifB (beq (add (sub (land (shiftRight a1 45) 131071) a3) (shiftRight a1 62)) 0) 9223372036854775808 (add (add (land a1 268435455) (mul a3 384)) (shiftLeft (add (sub (land (shiftRight a1 28) 131071) a3) (shiftLeft (add (sub (land (shiftRight a1 45) 131071) a3) (shiftLeft (shiftRight a1 62) 17)) 17)) 28)))) 268435455)) (mask (mul (land (shiftRight (ifB (beq (land a1 268435455) 0) a1 (ifB (beq (add (sub (land (shiftRight a1 45) 131071) a3) (shiftRight a1 62)) 0) 9223372036854775808 (add (add (land a1 268435455) (mul a3 384)) (shiftLeft (add (sub (land (shiftRight a1 28) 131071) a3) (shiftLeft (add (sub (land (shiftRight a1 45) 131071) a3) (shiftLeft (shiftRight a1 62) 17)) 17)) 28)))) 28) 131071) 6))) m t s d J7
def e193 : FunE := ⟨[.sli (lay 159), .one (.int .i64), .one (.int .i64)], [.sli (lay 159)], wrapF 3 1 sf193⟩
def i193 : FI := ⟨33, [], [0, 6, 7, 16], [], []⟩
def a193 : An := (.sq .reg (.sq .reg (.sq (.sq .reg (.cd .dead .skip)) (.sq .reg (.sq (.drw [(0, 0), (1, 0), (2, 0), (3, 0), (4, 0), (5, 0), (6, 1), (7, 1)]) (.sq .reg (.sq .reg .ret)))))))
theorem q193 : AllN 3 fun l => ∀ m t s d k, R.denF i193 a193 (bodyOf Tryz.f193) Tryz.f193.results.toList e193.ps e193.rs l ⟨m, t, s, d⟩ k = wrapF 3 1 sf193 l ⟨m, t, s, d⟩ k := by
  intro x0 x1 x2 m t s d k
  kernel_rfl
theorem ok193 : FunOK Tryz.prog 193 e193 := fun_ok facts mixed (I := i193) FnsOK.nil Tryz.func193 (by kernel_rfl) (by kernel_rfl) (by kernel_rfl) (an := a193) (by kernel_rfl) (by kernel_rfl) q193
def sf138 : FT 3 2 := fun a1 a2 a3 m t s d k=>
 sf144 a1 a2 a3 m t s d fun r4 r5 m6 t6 s6 d6=>
 ifB (ifB (beq r5 0) false true) (
 false)<|
 okB (ifB (beq a1 0) false true)<|
 okB (ble (succ r4) (land (shiftRight (land (shiftRight m6 a1) 18446744073709551615) 28) 131071))<|
 okB (beq (land (shiftRight d6 (shiftRight (add (land (land (shiftRight m6 a1) 18446744073709551615) 268435455) (mul r4 384)) 6)) 63) 0)<|
 force (land (shiftRight m6 (add (land (land (shiftRight m6 a1) 18446744073709551615) 268435455) (mul r4 384))) (mask 6)) fun v7=>
 okB (ifB (beq a1 0) false true)<|
 force (land (shiftRight m6 a1) 18446744073709551615) fun v8=>
 force (mod (add r4 1) 18446744073709551616) fun v9=>
 sf193 v8 r4 v9 m6 t6 s6 d6 fun r10 m11 t11 s11 d11=>
 okB (ifB (beq a1 0) false true)<|
 force (xor (land (shiftRight m11 a1) 18446744073709551615) r10) fun v12=>
 force (xor m11 (xor (shiftLeft v12 a1) (mod (add v12 a1) 2305843009213693951))) fun m13=>
 force v7 fun v14=>
 force v14 fun v15=>
 k v15 0 m13 t11 s11 d11
def e138 : FunE := ⟨[.ptr (lay 157) false false, .one (.int .u64), .one (.int .i64)], [.agg (lay 159), .one (.int .i64)], wrapF 3 2 sf138⟩
def i138 : FI := ⟨41, [6, 10], [6, 7, 8, 9, 10, 11, 19], [(144, e144), (193, e193)], []⟩
def a138 : An := (.sq .reg (.sq .reg (.sq (.sq .reg (.cd .dead .skip)) (.sq .reg (.sq .reg (.sq .reg .ret))))))
theorem q138 : AllN 3 fun l => ∀ m t s d k, R.denF i138 a138 (bodyOf Tryz.f138) Tryz.f138.results.toList e138.ps e138.rs l ⟨m, t, s, d⟩ k = wrapF 3 2 sf138 l ⟨m, t, s, d⟩ k := by
  intro x0 x1 x2 m t s d k
  kernel_rfl
theorem ok138 : FunOK Tryz.prog 138 e138 := fun_ok facts mixed (I := i138) (FnsOK.cons ok144 (FnsOK.cons ok193 FnsOK.nil)) Tryz.func138 (by kernel_rfl) (by kernel_rfl) (by kernel_rfl) (an := a138) (by kernel_rfl) (by kernel_rfl) q138
def sf97 : FT 3 2 := fun a1 a2 a3 m t s d k=>
 sf138 a1 a2 a3 m t s d fun r4 r5 m6 t6 s6 d6=>
 force r4 fun v7=>
 force v7 fun v8=>
 k v8 r5 m6 t6 s6 d6
def e97 : FunE := ⟨[.ptr (lay 157) false false, .one (.int .u64), .one (.int .i64)], [.agg (lay 159), .one (.int .i64)], wrapF 3 2 sf97⟩
def i97 : FI := ⟨14, [6], [6, 7, 11], [(138, e138)], []⟩
def a97 : An := (.sq .reg (.sq .reg .ret))
theorem q97 : AllN 3 fun l => ∀ m t s d k, R.denF i97 a97 (bodyOf Tryz.f97) Tryz.f97.results.toList e97.ps e97.rs l ⟨m, t, s, d⟩ k = wrapF 3 2 sf97 l ⟨m, t, s, d⟩ k := by
  intro x0 x1 x2 m t s d k
  kernel_rfl
theorem ok97 : FunOK Tryz.prog 97 e97 := fun_ok facts mixed (I := i97) (FnsOK.cons ok138 FnsOK.nil) Tryz.func97 (by kernel_rfl) (by kernel_rfl) (by kernel_rfl) (an := a97) (by kernel_rfl) (by kernel_rfl) q97
def sf194 : FT 2 1 := fun a1 a2 m t s d k=>
 force a2 fun v3=>
 force (land (shiftRight a1 28) 131071) fun v4=>
 loopN 5 (fun (_ _ _ _ _ : Nat) => false) (fun L7 (p5 m6 t6 s6 d6 : Nat)=>
 ifB (ble (succ (xor p5 9223372036854775808)) (xor v4 9223372036854775808)) (
 okB (ble (succ p5) (land (shiftRight a1 28) 131071))<|
 okB (beq (land (shiftRight d6 (shiftRight (add (land a1 268435455) (mul p5 192)) 6)) 7) 0)<|
 ifB (beq v3 (land (shiftRight m6 (add (land a1 268435455) (mul p5 192))) 6277101735386680763835789423207666416102355444464034512895)) (
 k p5 m6 t6 s6 d6)<|
 force (mod (add p5 1) 18446744073709551616) fun v8=>
 L7 v8 m6 t6 s6 d6)<|
 false) 0 m t s d
def e194 : FunE := ⟨[.sli (lay 80), .agg (lay 80)], [.one (.int .i64)], wrapF 2 1 sf194⟩
def i194 : FI := ⟨19, [3], [3, 4, 5, 7, 8, 9, 16], [], []⟩
def a194 : An := (.sq .reg (.sq (.sq .reg (.bl (.lp [(8, .sh (.one (.int .i64)))] 5 (.sq .reg (.sq (.cd .skip .dead) (.sq (.bl (.sq .reg (.sq (.drw [(0, 0), (1, 0), (2, 0), (3, 0), (4, 0), (5, 0)]) (.cd (.sq .reg .ret) .skip)))) .reg)))))) .dead))
theorem q194 : AllN 2 fun l => ∀ m t s d k, R.denF i194 a194 (bodyOf Tryz.f194) Tryz.f194.results.toList e194.ps e194.rs l ⟨m, t, s, d⟩ k = wrapF 2 1 sf194 l ⟨m, t, s, d⟩ k := by
  intro x0 x1 m t s d k
  kernel_rfl
theorem ok194 : FunOK Tryz.prog 194 e194 := fun_ok facts mixed (I := i194) FnsOK.nil Tryz.func194 (by kernel_rfl) (by kernel_rfl) (by kernel_rfl) (an := a194) (by kernel_rfl) (by kernel_rfl) q194
def sf139 : FT 3 1 := fun a1 a2 a3 m t s d k=>
 force a2 fun v4=>
 okB (ifB (beq a1 0) false true)<|
 force (land (shiftRight m a1) 18446744073709551615) fun v5=>
 force (xor v4 (shiftLeft a3 128)) fun v6=>
 sf194 v5 v6 m t s d fun r7 m8 t8 s8 d8=>
 force (mod (add r7 1) 18446744073709551616) fun v9=>
 k v9 m8 t8 s8 d8
def e139 : FunE := ⟨[.ptr (lay 85) false false, .agg (lay 44), .one (.int .i64)], [.one (.int .i64)], wrapF 3 1 sf139⟩
def i139 : FI := ⟨16, [4], [4, 6], [(194, e194)], []⟩
def a139 : An := (.sq .reg (.sq (.drw [(0, 0), (1, 0), (2, 0), (3, 0), (4, 0), (5, 0), (6, 0), (7, 1), (8, 0), (9, 0)]) .ret))
theorem q139 : AllN 3 fun l => ∀ m t s d k, R.denF i139 a139 (bodyOf Tryz.f139) Tryz.f139.results.toList e139.ps e139.rs l ⟨m, t, s, d⟩ k = wrapF 3 1 sf139 l ⟨m, t, s, d⟩ k := by
  intro x0 x1 x2 m t s d k
  kernel_rfl
theorem ok139 : FunOK Tryz.prog 139 e139 := fun_ok facts mixed (I := i139) (FnsOK.cons ok194 FnsOK.nil) Tryz.func139 (by kernel_rfl) (by kernel_rfl) (by kernel_rfl) (an := a139) (by kernel_rfl) (by kernel_rfl) q139
def sf98 : FT 4 1 := fun a1 a2 a3 a4 m t s d k=>
 force a3 fun v5=>
 force a4 fun v6=>
 force v6 fun v7=>
 sf139 a1 v7 0 m t s d fun r8 m9 t9 s9 d9=>
 ifB (ble 9223372036854775809 (xor r8 9223372036854775808)) (
 k r8 m9 t9 s9 d9)<|
 false
def e98 : FunE := ⟨[.ptr (lay 85) false false, .one (.int .u64), .agg (lay 44), .agg (lay 44)], [.one (.int .i64)], wrapF 4 1 sf98⟩
def i98 : FI := ⟨52, [6, 7, 12], [6, 7, 8, 9, 10, 11, 12, 13, 18, 23, 24, 25, 26, 34, 35, 45], [(139, e139)], []⟩
def a98 : An := (.sq .reg (.sq (.sq .reg (.sq .reg (.cd (.sq .reg .ret) .dead))) .dead))
theorem q98 : AllN 4 fun l => ∀ m t s d k, R.denF i98 a98 (bodyOf Tryz.f98) Tryz.f98.results.toList e98.ps e98.rs l ⟨m, t, s, d⟩ k = wrapF 4 1 sf98 l ⟨m, t, s, d⟩ k := by
  intro x0 x1 x2 x3 m t s d k
  kernel_rfl
theorem ok98 : FunOK Tryz.prog 98 e98 := fun_ok facts mixed (I := i98) (FnsOK.cons ok139 FnsOK.nil) Tryz.func98 (by kernel_rfl) (by kernel_rfl) (by kernel_rfl) (an := a98) (by kernel_rfl) (by kernel_rfl) q98
def sf63 : FT 3 2 := fun a1 a2 a3 m t s d k=>
 okB (ifB (beq a1 0) false true)<|
 force (land (shiftRight m (add a1 128)) 18446744073709551615) fun v4=>
 sf97 v4 a2 a3 m t s d fun r5 r6 m7 t7 s7 d7=>
 force r5 fun v8=>
 ifB (ifB (beq r6 0) false true) (
 false)<|
 force (land (shiftRight v8 0) 340282366920938463463374607431768211455) fun v9=>
 force (land (shiftRight v8 128) 340282366920938463463374607431768211455) fun v10=>
 sf98 a1 a2 v9 v10 m7 t7 s7 d7 fun r11 m12 t12 s12 d12=>
 okB (beq (land (shiftRight v8 256) 18446744073709551615) (land (shiftRight v8 256) 18446744073709551615))<|
 okB (beq (land (shiftRight v8 0) 340282366920938463463374607431768211455) (land (shiftRight v8 0) 340282366920938463463374607431768211455))<|
 force (xor (xor r11 (shiftLeft (land (shiftRight v8 0) 340282366920938463463374607431768211455) 64)) (shiftLeft (land (shiftRight v8 256) 18446744073709551615) 192)) fun v13=>
 force v13 fun v14=>
 k v14 0 m12 t12 s12 d12
def e63 : FunE := ⟨[.ptr (lay 85) false false, .one (.int .u64), .one (.int .i64)], [.agg (lay 143), .one (.int .i64)], wrapF 3 2 sf63⟩
def i63 : FI := ⟨36, [6, 8], [6, 7, 8, 9, 10, 21], [(97, e97), (98, e98)], []⟩
def a63 : An := (.sq .reg (.sq .reg (.sq (.sq .reg (.cd .dead .skip)) (.sq (.drw [(0, 0), (1, 0), (2, 0), (3, 0), (4, 0), (5, 0), (7, 0), (8, 0), (9, 0), (10, 0), (6, 1), (11, 0), (12, 1), (13, 0)]) .ret))))
theorem q63 : AllN 3 fun l => ∀ m t s d k, R.denF i63 a63 (bodyOf Tryz.f63) Tryz.f63.results.toList e63.ps e63.rs l ⟨m, t, s, d⟩ k = wrapF 3 2 sf63 l ⟨m, t, s, d⟩ k := by
  intro x0 x1 x2 m t s d k
  kernel_rfl
theorem ok63 : FunOK Tryz.prog 63 e63 := fun_ok facts mixed (I := i63) (FnsOK.cons ok97 (FnsOK.cons ok98 FnsOK.nil)) Tryz.func63 (by kernel_rfl) (by kernel_rfl) (by kernel_rfl) (an := a63) (by kernel_rfl) (by kernel_rfl) q63
def sf64 : FT 2 1 := fun a1 a2 m t s d k=>
 sf39 a1 a2 m t s d fun r3 m4 t4 s4 d4=>
 okB (ifB (ifB (beq r3 0) false true) (ifB (beq r3 0) false true) true)<|
 okB (ifB (ifB (beq r3 0) false true) (beq (land (shiftRight d4 (shiftRight (add r3 64) 6)) 1) 0) true)<|
 okB (ifB (ifB (beq r3 0) false true) (ifB (beq r3 0) false true) true)<|
 force (ifB (ifB (ifB (beq r3 0) false true) (beq (land (shiftRight m4 (add r3 64)) 18446744073709551615) 1) false) 1 0) fun v5=>
 k v5 m4 t4 s4 d4
def e64 : FunE := ⟨[.ptr (lay 65) false false, .one (.int .i64)], [.one .bool], wrapF 2 1 sf64⟩
def i64 : FI := ⟨17, [], [4, 5, 11], [(39, e39)], []⟩
def a64 : An := (.sq .reg (.sq .reg (.sq .reg .ret)))
theorem q64 : AllN 2 fun l => ∀ m t s d k, R.denF i64 a64 (bodyOf Tryz.f64) Tryz.f64.results.toList e64.ps e64.rs l ⟨m, t, s, d⟩ k = wrapF 2 1 sf64 l ⟨m, t, s, d⟩ k := by
  intro x0 x1 m t s d k
  kernel_rfl
theorem ok64 : FunOK Tryz.prog 64 e64 := fun_ok facts mixed (I := i64) (FnsOK.cons ok39 FnsOK.nil) Tryz.func64 (by kernel_rfl) (by kernel_rfl) (by kernel_rfl) (an := a64) (by kernel_rfl) (by kernel_rfl) q64
def sf198 : FT 1 1 := fun a1 m t s d k=>
 force a1 fun v2=>
 force v2 fun v3=>
 k v3 m t s d
def e198 : FunE := ⟨[.one .str], [.agg (lay 327)], wrapF 1 1 sf198⟩
def i198 : FI := ⟨5, [2], [2], [], []⟩
def a198 : An := (.sq .reg (.sq .reg .ret))
theorem q198 : AllN 1 fun l => ∀ m t s d k, R.denF i198 a198 (bodyOf Tryz.f198) Tryz.f198.results.toList e198.ps e198.rs l ⟨m, t, s, d⟩ k = wrapF 1 1 sf198 l ⟨m, t, s, d⟩ k := by
  intro x0 m t s d k
  kernel_rfl
theorem ok198 : FunOK Tryz.prog 198 e198 := fun_ok facts mixed (I := i198) FnsOK.nil Tryz.func198 (by kernel_rfl) (by kernel_rfl) (by kernel_rfl) (an := a198) (by kernel_rfl) (by kernel_rfl) q198
def sf304 : FT 2 2 := fun a1 a2 m t s d k=>
 force a1 fun v3=>
 force (land (shiftRight v3 64) 18446744073709551615) fun v4=>
 okB (ifB (beq v4 1) true (ifB (beq v4 1) false true))<|
 ifB (ifB (beq v4 1) true (ble (succ (xor (land (land (shiftRight v3 0) 18446744073709551615) 65535) 9223372036854775808)) (xor a2 9223372036854775808))) (
 false)<|
 okB (ble a2 (land (land (shiftRight v3 0) 18446744073709551615) 65535))<|
 okB (ble a2 (land (land (shiftRight v3 0) 18446744073709551615) 65535))<|
 force (add (shiftLeft (shiftRight (land (shiftRight v3 0) 18446744073709551615) 16) 16) a2) fun v5=>
 force (add (shiftLeft (add (shiftRight (land (shiftRight v3 0) 18446744073709551615) 16) (mul a2 8)) 16) (sub (land (land (shiftRight v3 0) 18446744073709551615) 65535) a2)) fun v6=>
 force v6 fun v7=>
 k v5 v7 m t s d
def e304 : FunE := ⟨[.agg (lay 327), .one (.int .i64)], [.one .str, .agg (lay 327)], wrapF 2 2 sf304⟩
def i304 : FI := ⟨25, [2, 5], [2, 4, 5, 8, 14], [], []⟩
def a304 : An := (.sq .reg (.sc (.sq (.sq .reg (.cd .dead .skip)) (.sq (.sq (.drw [(0, 0), (1, 0), (2, 0), (3, 0), (4, 0), (5, 0), (6, 0), (7, 0), (8, 0), (9, 0), (10, 1)]) .ret) .dead))))
theorem q304 : AllN 2 fun l => ∀ m t s d k, R.denF i304 a304 (bodyOf Tryz.f304) Tryz.f304.results.toList e304.ps e304.rs l ⟨m, t, s, d⟩ k = wrapF 2 2 sf304 l ⟨m, t, s, d⟩ k := by
  intro x0 x1 m t s d k
  kernel_rfl
theorem ok304 : FunOK Tryz.prog 304 e304 := fun_ok facts mixed (I := i304) FnsOK.nil Tryz.func304 (by kernel_rfl) (by kernel_rfl) (by kernel_rfl) (an := a304) (by kernel_rfl) (by kernel_rfl) q304
def sf257 : FT 2 2 := fun a1 a2 m t s d k=>
 force a1 fun v3=>
 okB (ifB (ble (succ (xor a2 9223372036854775808)) 9223372036854775809) true (ifB (ble (succ (xor a2 9223372036854775808)) 9223372036854775809) false true))<|
 ifB (ifB (ble (succ (xor a2 9223372036854775808)) 9223372036854775809) true (ble 9223372036854775817 (xor a2 9223372036854775808))) (
 false)<|
 force v3 fun v4=>
 sf304 v4 a2 m t s d fun r5 r6 m7 t7 s7 d7=>
 force r6 fun v8=>
 join (fun (p9 m10 t10 s10 d10 : Nat)=>
 okB (beq v8 v8)<|
 force v8 fun v12=>
 force v12 fun v13=>
 k p9 v13 m10 t10 s10 d10) fun J11=>
 force (land r5 65535) fun v14=>
 loopN 8 (fun (_ _ _ _ _ _ : Nat) => false) (fun L18 (p15 p16 m17 t17 s17 d17 : Nat)=>
 ifB (ble (succ (xor p16 9223372036854775808)) (xor v14 9223372036854775808)) (
 okB (ble 9 64)<|
 okB (ble (succ p16) (land r5 65535))<|
 force (lor (mod (shiftLeft p15 8) 18446744073709551616) (land (shiftRight s17 (add (shiftRight r5 16) (shiftLeft p16 3))) 255)) fun v19=>
 force (mod (add p16 1) 18446744073709551616) fun v20=>
 L18 v19 v20 m17 t17 s17 d17)<|
 J11 p15 m17 t17 s17 d17) 0 0 m7 t7 s7 d7
def e257 : FunE := ⟨[.agg (lay 327), .one (.int .i64)], [.one (.int .u64), .agg (lay 327)], wrapF 2 2 sf257⟩
def i257 : FI := ⟨36, [2, 5], [2, 4, 5, 6, 7, 10, 13, 14, 21, 22, 23], [(304, e304)], []⟩
def a257 : An := (.sq .reg (.sc (.sq .reg (.sq (.sq .reg (.cd .dead .skip)) (.sq .reg (.sj [(4, .sh (.one (.int .u64)))] (.sq .reg (.bl (.lp [(4, .sh (.one (.int .u64))), (22, .sh (.one (.int .i64)))] 8 (.sq .reg (.sq (.cd .skip .ex) (.sq (.bl (.sq .reg .reg)) .reg)))))) (.sq (.sq (.drw [(0, 0), (1, 0), (2, 1), (3, 1)]) .ret) .dead)))))))
theorem q257 : AllN 2 fun l => ∀ m t s d k, R.denF i257 a257 (bodyOf Tryz.f257) Tryz.f257.results.toList e257.ps e257.rs l ⟨m, t, s, d⟩ k = wrapF 2 2 sf257 l ⟨m, t, s, d⟩ k := by
  intro x0 x1 m t s d k
  kernel_rfl
theorem ok257 : FunOK Tryz.prog 257 e257 := fun_ok facts mixed (I := i257) (FnsOK.cons ok304 FnsOK.nil) Tryz.func257 (by kernel_rfl) (by kernel_rfl) (by kernel_rfl) (an := a257) (by kernel_rfl) (by kernel_rfl) q257
def sf199 : FT 2 1 := fun a1 a2 m t s d k=>
 okB (ifB (beq a1 0) false true)<|
 force (land (shiftRight m a1) 340282366920938463463374607431768211455) fun v3=>
 sf257 v3 a2 m t s d fun r4 r5 m6 t6 s6 d6=>
 force r5 fun v7=>
 okB (ifB (beq a1 0) false true)<|
 force (xor (land (shiftRight m6 a1) 340282366920938463463374607431768211455) v7) fun v8=>
 force (xor m6 (xor (shiftLeft v8 a1) (mod (add v8 a1) 2305843009213693951))) fun m9=>
 k r4 m9 t6 s6 d6
def e199 : FunE := ⟨[.ptr (lay 327) false false, .one (.int .i64)], [.one (.int .i64)], wrapF 2 1 sf199⟩
def i199 : FI := ⟨22, [6], [4, 5, 6, 7], [(257, e257)], []⟩
def a199 : An := (.sq .reg (.sq .reg (.sq .reg (.sq .reg .ret))))
theorem q199 : AllN 2 fun l => ∀ m t s d k, R.denF i199 a199 (bodyOf Tryz.f199) Tryz.f199.results.toList e199.ps e199.rs l ⟨m, t, s, d⟩ k = wrapF 2 1 sf199 l ⟨m, t, s, d⟩ k := by
  intro x0 x1 m t s d k
  kernel_rfl
theorem ok199 : FunOK Tryz.prog 199 e199 := fun_ok facts mixed (I := i199) (FnsOK.cons ok257 FnsOK.nil) Tryz.func199 (by kernel_rfl) (by kernel_rfl) (by kernel_rfl) (an := a199) (by kernel_rfl) (by kernel_rfl) q199
def sf202 : FT 1 1 := fun a1 m t s d k=>
 force a1 fun v2=>
 okB (ifB (ifB (beq (land (shiftRight v2 64) 18446744073709551615) 1) false true) (ifB (beq (land (shiftRight v2 64) 18446744073709551615) 1) false true) true)<|
 force (ifB (ifB (ifB (beq (land (shiftRight v2 64) 18446744073709551615) 1) false true) (beq (add (land (shiftRight s (shiftRight (land (shiftRight v2 0) 18446744073709551615) 16)) (sub (shiftLeft 1 (shiftLeft (land (land (shiftRight v2 0) 18446744073709551615) 65535) 3)) 1)) (shiftLeft 1 (shiftLeft (land (land (shiftRight v2 0) 18446744073709551615) 65535) 3))) (add (land (shiftRight s 0) 0) 1)) false) 1 0) fun v3=>
 k v3 m t s d
def e202 : FunE := ⟨[.agg (lay 327)], [.one .bool], wrapF 1 1 sf202⟩
def i202 : FI := ⟨11, [1], [1, 2, 6], [], []⟩
def a202 : An := (.sq .reg (.sq .reg .ret))
theorem q202 : AllN 1 fun l => ∀ m t s d k, R.denF i202 a202 (bodyOf Tryz.f202) Tryz.f202.results.toList e202.ps e202.rs l ⟨m, t, s, d⟩ k = wrapF 1 1 sf202 l ⟨m, t, s, d⟩ k := by
  intro x0 m t s d k
  kernel_rfl
theorem ok202 : FunOK Tryz.prog 202 e202 := fun_ok facts mixed (I := i202) FnsOK.nil Tryz.func202 (by kernel_rfl) (by kernel_rfl) (by kernel_rfl) (an := a202) (by kernel_rfl) (by kernel_rfl) q202
def sf258 : FT 1 2 := fun a1 m t s d k=>
 sf198 a1 m t s d fun r2 m3 t3 s3 d3=>
 sf257 r2 4 m3 t3 s3 d3 fun r4 r5 m6 t6 s6 d6=>
 force r5 fun v7=>
 force v7 fun v8=>
 sf257 v8 2 m6 t6 s6 d6 fun r9 r10 m11 t11 s11 d11=>
 force r10 fun v12=>
 force (xor (mod r4 4294967296) (shiftLeft (mod r9 65536) 64)) fun v13=>
 force v12 fun v14=>
 sf202 v14 m11 t11 s11 d11 fun r15 m16 t16 s16 d16=>
 okB (ifB (ifB (ifB (ifB (beq r15 1) false true) false true) (beq v13 0) false) (ble 1 (land a1 65535)) true)<|
 okB (ifB (ifB (ifB (beq r15 1) false true) false true) (ifB (beq v13 0) (ifB (ifB (ifB (beq r15 1) false true) false true) (beq v13 0) false) true) true)<|
 okB (ifB (ifB (beq r15 1) false true) true (ifB (ifB (beq r15 1) false true) false true))<|
 ifB (ifB (ifB (beq r15 1) false true) true (ifB (beq v13 0) (ifB (beq (land (shiftRight s16 (add (shiftRight a1 16) 0)) 255) 0) false true) false)) (
 false)<|
 force v13 fun v17=>
 force v17 fun v18=>
 force (ifB true 1 0) fun v19=>
 k v18 v19 m16 t16 s16 d16
def e258 : FunE := ⟨[.one .str], [.agg (lay 44), .one .bool], wrapF 1 2 sf258⟩
def i258 : FI := ⟨39, [2, 5, 7], [2, 3, 4, 5, 6, 7, 8, 14, 27, 31, 36], [(198, e198), (202, e202), (257, e257)], []⟩
def a258 : An := (.sq .reg (.sq .reg (.sq .reg (.sq .reg (.sq (.sq .reg (.cd .dead .skip)) (.sq .reg .ret))))))
theorem q258 : AllN 1 fun l => ∀ m t s d k, R.denF i258 a258 (bodyOf Tryz.f258) Tryz.f258.results.toList e258.ps e258.rs l ⟨m, t, s, d⟩ k = wrapF 1 2 sf258 l ⟨m, t, s, d⟩ k := by
  intro x0 m t s d k
  kernel_rfl
theorem ok258 : FunOK Tryz.prog 258 e258 := fun_ok facts mixed (I := i258) (FnsOK.cons ok198 (FnsOK.cons ok202 (FnsOK.cons ok257 FnsOK.nil))) Tryz.func258 (by kernel_rfl) (by kernel_rfl) (by kernel_rfl) (an := a258) (by kernel_rfl) (by kernel_rfl) q258
def sf259 : FT 2 1 := fun a1 a2 m t s d k=>
 okB (ifB (beq a1 0) false true)<|
 force (land (shiftRight m (add a1 64)) 18446744073709551615) fun v3=>
 okB (ifB (ifB (beq v3 1) false true) (ifB (beq a1 0) false true) true)<|
 okB (ifB (beq v3 1) true (ifB (beq v3 1) false true))<|
 ifB (ifB (beq v3 1) true (ble (succ (xor (land (land (shiftRight m a1) 18446744073709551615) 65535) 9223372036854775808)) (xor a2 9223372036854775808))) (
 false)<|
 okB (ifB (beq a1 0) false true)<|
 okB (ble a2 (land (land (shiftRight m a1) 18446744073709551615) 65535))<|
 force (add (shiftLeft (shiftRight (land (shiftRight m a1) 18446744073709551615) 16) 16) a2) fun v4=>
 okB (ifB (beq a1 0) false true)<|
 okB (ble a2 (land (land (shiftRight m a1) 18446744073709551615) 65535))<|
 okB (ifB (beq a1 0) false true)<|
 force (xor (land (shiftRight m a1) 18446744073709551615) (add (shiftLeft (add (shiftRight (land (shiftRight m a1) 18446744073709551615) 16) (mul a2 8)) 16) (sub (land (land (shiftRight m a1) 18446744073709551615) 65535) a2))) fun v5=>
 force (xor m (xor (shiftLeft v5 a1) (mod (add v5 a1) 2305843009213693951))) fun m6=>
 k v4 m6 t s d
def e259 : FunE := ⟨[.ptr (lay 327) false false, .one (.int .i64)], [.one .str], wrapF 2 1 sf259⟩
def i259 : FI := ⟨44, [], [4, 5, 11, 20], [], []⟩
def a259 : An := (.sq .reg (.sq (.sq .reg (.cd .dead .skip)) (.sq .reg (.sq .reg (.sq .reg .ret)))))
theorem q259 : AllN 2 fun l => ∀ m t s d k, R.denF i259 a259 (bodyOf Tryz.f259) Tryz.f259.results.toList e259.ps e259.rs l ⟨m, t, s, d⟩ k = wrapF 2 1 sf259 l ⟨m, t, s, d⟩ k := by
  intro x0 x1 m t s d k
  kernel_rfl
theorem ok259 : FunOK Tryz.prog 259 e259 := fun_ok facts mixed (I := i259) FnsOK.nil Tryz.func259 (by kernel_rfl) (by kernel_rfl) (by kernel_rfl) (an := a259) (by kernel_rfl) (by kernel_rfl) q259
def sf260 : FT 1 2 := fun a1 m t s d k=>
 sf198 a1 m t s d fun r2 m3 t3 s3 d3=>
 sf257 r2 4 m3 t3 s3 d3 fun r4 r5 m6 t6 s6 d6=>
 force r5 fun v7=>
 force v7 fun v8=>
 sf257 v8 4 m6 t6 s6 d6 fun r9 r10 m11 t11 s11 d11=>
 force r10 fun v12=>
 force v12 fun v13=>
 sf202 v13 m11 t11 s11 d11 fun r14 m15 t15 s15 d15=>
 okB (ifB (ifB (beq r14 1) false true) true (ifB (ifB (beq r14 1) false true) false true))<|
 ifB (ifB (ifB (beq r14 1) false true) true (ble 2000001 (ifB (ble (succ r4) r9) r9 r4))) (
 false)<|
 okB (beq r4 1000000)<|
 okB (beq r9 1000000)<|
 force (ifB true 1 0) fun v16=>
 k 0 v16 m15 t15 s15 d15
def e260 : FunE := ⟨[.one .str], [.one (.cst 0), .one .bool], wrapF 1 2 sf260⟩
def i260 : FI := ⟨33, [5], [2, 3, 4, 5, 6, 7, 13, 21, 26], [(198, e198), (202, e202), (257, e257)], []⟩
def a260 : An := (.sq .reg (.sq .reg (.sq .reg (.sq (.sq .reg (.cd .dead .skip)) (.sq .reg .ret)))))
theorem q260 : AllN 1 fun l => ∀ m t s d k, R.denF i260 a260 (bodyOf Tryz.f260) Tryz.f260.results.toList e260.ps e260.rs l ⟨m, t, s, d⟩ k = wrapF 1 2 sf260 l ⟨m, t, s, d⟩ k := by
  intro x0 m t s d k
  kernel_rfl
theorem ok260 : FunOK Tryz.prog 260 e260 := fun_ok facts mixed (I := i260) (FnsOK.cons ok198 (FnsOK.cons ok202 (FnsOK.cons ok257 FnsOK.nil))) Tryz.func260 (by kernel_rfl) (by kernel_rfl) (by kernel_rfl) (an := a260) (by kernel_rfl) (by kernel_rfl) q260
def sf261 : FT 1 3 := fun a1 m t s d k=>
 sf198 a1 m t s d fun r2 m3 t3 s3 d3=>
 sf257 r2 1 m3 t3 s3 d3 fun r4 r5 m6 t6 s6 d6=>
 force r5 fun v7=>
 force v7 fun v8=>
 sf257 v8 1 m6 t6 s6 d6 fun r9 r10 m11 t11 s11 d11=>
 force r10 fun v12=>
 force v12 fun v13=>
 sf257 v13 4 m11 t11 s11 d11 fun r14 r15 m16 t16 s16 d16=>
 force r15 fun v17=>
 force (land (shiftRight v17 64) 18446744073709551615) fun v18=>
 okB (ifB (beq v18 1) true (ifB (beq v18 1) false true))<|
 ifB (ifB (beq v18 1) true (ble (succ (xor (land (land (shiftRight v17 0) 18446744073709551615) 65535) 9223372036854775808)) 9223372036854775814)) (
 false)<|
 okB (ble 6 (land (land (shiftRight v17 0) 18446744073709551615) 65535))<|
 force (add (shiftLeft (shiftRight (land (shiftRight v17 0) 18446744073709551615) 16) 16) 6) fun v19=>
 sf258 v19 m16 t16 s16 d16 fun r20 r21 m22 t22 s22 d22=>
 force (xor 0 (shiftLeft (xor (land (shiftRight 0 192) 340282366920938463463374607431768211455) r20) 192)) fun v23=>
 force (xor v23 (shiftLeft (xor (land (shiftRight v23 0) 18446744073709551615) r4) 0)) fun v24=>
 force (xor v24 (shiftLeft (xor (land (shiftRight v24 64) 18446744073709551615) r9) 64)) fun v25=>
 force (xor v25 (shiftLeft (xor (land (shiftRight v25 128) 18446744073709551615) (mod r14 4294967296)) 128)) fun v26=>
 join (fun (r27 m28 t28 s28 d28 : Nat)=>
 okB (ifB (beq r21 1) (beq r21 1) true)<|
 ifB (ifB (beq r21 1) (beq r27 1) false) (
 okB (ble 6 (land (land (shiftRight v17 0) 18446744073709551615) 65535))<|
 force v26 fun v30=>
 okB (beq (land (shiftRight v17 0) 18446744073709551615) (land (shiftRight v17 0) 18446744073709551615))<|
 force (add (shiftLeft (add (shiftRight (land (shiftRight v17 0) 18446744073709551615) 16) 48) 16) (sub (land (land (shiftRight v17 0) 18446744073709551615) 65535) 6)) fun v31=>
 force v30 fun v32=>
 force (ifB true 1 0) fun v33=>
 k v32 v31 v33 m28 t28 s28 d28)<|
 false) fun J29=>
 ifB (beq r21 1) (
 force v26 fun v34=>
 sf80 v34 m22 t22 s22 d22 fun r35 m36 t36 s36 d36=>
 J29 r35 m36 t36 s36 d36)<|
 J29 0 m22 t22 s22 d22
def e261 : FunE := ⟨[.one .str], [.agg (lay 53), .one .str, .one .bool], wrapF 1 3 sf261⟩
def i261 : FI := ⟨60, [2, 6], [2, 3, 4, 5, 6, 7, 8, 9, 15, 20, 27, 32, 33, 51, 54], [(80, e80), (198, e198), (257, e257), (258, e258)], []⟩
def a261 : An := (.sq .reg (.sc (.sq .reg (.sq .reg (.sq .reg (.sq (.sq .reg (.cd .dead .skip)) (.sq .reg (.sq .reg (.sq (.sq .reg (.cd (.sq (.drw [(0, 0), (1, 0), (2, 0), (3, 0), (4, 1), (5, 0), (6, 0)]) .ret) .dead)) .dead)))))))))
theorem q261 : AllN 1 fun l => ∀ m t s d k, R.denF i261 a261 (bodyOf Tryz.f261) Tryz.f261.results.toList e261.ps e261.rs l ⟨m, t, s, d⟩ k = wrapF 1 3 sf261 l ⟨m, t, s, d⟩ k := by
  intro x0 m t s d k
  kernel_rfl
theorem ok261 : FunOK Tryz.prog 261 e261 := fun_ok facts mixed (I := i261) (FnsOK.cons ok80 (FnsOK.cons ok198 (FnsOK.cons ok257 (FnsOK.cons ok258 FnsOK.nil)))) Tryz.func261 (by kernel_rfl) (by kernel_rfl) (by kernel_rfl) (an := a261) (by kernel_rfl) (by kernel_rfl) q261
def sf201 : FT 3 0 := fun a1 a2 a3 m t s d k=>
 ifB (beq a3 110) (
 sf199 a1 1 m t s d fun r4 m5 t5 s5 d5=>
 okB (ifB (beq a2 0) false true)<|
 force (xor (land (shiftRight m5 (add a2 192)) 18446744073709551615) r4) fun v6=>
 force (xor m5 (xor (shiftLeft v6 (add a2 192)) (mod (add v6 (add a2 192)) 2305843009213693951))) fun m7=>
 k m7 t5 s5 d5)<|
 ifB (beq a3 97) (
 sf259 a1 6 m t s d fun r8 m9 t9 s9 d9=>
 sf258 r8 m9 t9 s9 d9 fun r10 r11 m12 t12 s12 d12=>
 okB (ifB (beq a2 0) false true)<|
 force (xor (land (shiftRight m12 (add a2 256)) 340282366920938463463374607431768211455) r10) fun v13=>
 force (xor m12 (xor (shiftLeft v13 (add a2 256)) (mod (add v13 (add a2 256)) 2305843009213693951))) fun m14=>
 k m14 t12 s12 d12)<|
 ifB (beq a3 112) (
 sf259 a1 8 m t s d fun r15 m16 t16 s16 d16=>
 sf260 r15 m16 t16 s16 d16 fun r17 r18 m19 t19 s19 d19=>
 okB (ifB (beq a2 0) false true)<|
 force (xor (land (shiftRight m19 (add a2 384)) 18446744073709551615) 0) fun v20=>
 force (xor m19 (xor (shiftLeft v20 (add a2 384)) (mod (add v20 (add a2 384)) 2305843009213693951))) fun m21=>
 k m21 t19 s19 d19)<|
 ifB (beq a3 102) (
 sf199 a1 1 m t s d fun r22 m23 t23 s23 d23=>
 okB (ifB (beq a2 0) false true)<|
 force (xor (land (shiftRight m23 (add a2 448)) 18446744073709551615) (ifB (beq r22 1) 1 0)) fun v24=>
 force (xor m23 (xor (shiftLeft v24 (add a2 448)) (mod (add v24 (add a2 448)) 2305843009213693951))) fun m25=>
 k m25 t23 s23 d23)<|
 ifB (beq a3 98) (
 sf199 a1 2 m t s d fun r26 m27 t27 s27 d27=>
 sf259 a1 r26 m27 t27 s27 d27 fun r28 m29 t29 s29 d29=>
 okB (ifB (beq a2 0) false true)<|
 force (xor (land (shiftRight m29 (add a2 512)) 18446744073709551615) r28) fun v30=>
 force (xor m29 (xor (shiftLeft v30 (add a2 512)) (mod (add v30 (add a2 512)) 2305843009213693951))) fun m31=>
 k m31 t29 s29 d29)<|
 ifB (beq a3 114) (
 sf199 a1 1 m t s d fun r32 m33 t33 s33 d33=>
 loopN 6 (fun (_ _ _ _ _ : Nat) => false) (fun L36 (p34 m35 t35 s35 d35 : Nat)=>
 okB (ifB (ble 9223372036854775809 (xor p34 9223372036854775808)) (ifB (beq a1 0) false true) true)<|
 okB (ifB (ble 9223372036854775809 (xor p34 9223372036854775808)) (ble 9223372036854775809 (xor p34 9223372036854775808)) true)<|
 ifB (ifB (ble 9223372036854775809 (xor p34 9223372036854775808)) (ifB (beq (land (shiftRight m35 (add a1 64)) 18446744073709551615) 1) false true) false) (
 okB (ifB (beq a1 0) false true)<|
 force (land (shiftRight m35 a1) 18446744073709551615) fun v37=>
 sf261 v37 m35 t35 s35 d35 fun r38 r39 r40 m41 t41 s41 d41=>
 force r38 fun v42=>
 okB (ifB (beq a1 0) false true)<|
 force (xor (land (shiftRight m41 a1) 340282366920938463463374607431768211455) (xor r39 (shiftLeft (ifB (ifB (beq r40 1) false true) 1 0) 64))) fun v43=>
 force (xor m41 (xor (shiftLeft v43 a1) (mod (add v43 a1) 2305843009213693951))) fun m44=>
 okB (ifB (beq a2 0) false true)<|
 force v42 fun v45=>
 okB (beq (land (shiftRight m44 (add a2 576)) 18446744073709551615) (land (shiftRight m44 (add a2 576)) 18446744073709551615))<|
 join (fun (r46 m47 t47 s47 d47 : Nat)=>
 okB (ifB (beq a2 0) false true)<|
 force (xor (land (shiftRight m47 (add a2 576)) 18446744073709551615) r46) fun v49=>
 force (xor m47 (xor (shiftLeft v49 (add a2 576)) (mod (add v49 (add a2 576)) 2305843009213693951))) fun m50=>
 force (mod (sub (add p34 18446744073709551616) 1) 18446744073709551616) fun v51=>
 L36 v51 m50 t47 s47 d47) fun J48=>
 appR 5 (land (shiftRight m44 (add a2 576)) 18446744073709551615) 1 v45 m44 t41 s41 d41 J48)<|
 k m35 t35 s35 d35) r32 m33 t33 s33 d33)<|
 false
def e201 : FunE := ⟨[.ptr (lay 327) false false, .ptr (lay 227) false false, .one (.int .i32)], [], wrapF 3 0 sf201⟩
def i201 : FI := ⟨100, [7, 96], [6, 7, 8, 9, 10, 11, 18, 20, 29, 31, 40, 48, 57, 63, 70, 73], [(199, e199), (258, e258), (259, e259), (260, e260), (261, e261)], []⟩
def a201 : An := (.sq .reg (.bl (.sq .reg (.cd .reg (.sq .reg (.cd .reg (.sq .reg (.cd .reg (.sq .reg (.cd .reg (.sq .reg (.cd .reg (.sq .reg (.cd (.sq .reg (.bl (.lp [(6, .sh (.one (.int .i64)))] 6 (.sq (.sq .reg (.cd .skip .ex)) (.sq (.bl (.sq .reg (.sq .reg (.drw [(0, 0), (1, 0), (2, 0), (3, 0), (4, 0), (5, 0), (6, 2), (7, 1), (8, 0), (9, 0), (10, 1)])))) .reg))))) .dead))))))))))))))
theorem q201 : AllN 3 fun l => ∀ m t s d k, R.denF i201 a201 (bodyOf Tryz.f201) Tryz.f201.results.toList e201.ps e201.rs l ⟨m, t, s, d⟩ k = wrapF 3 0 sf201 l ⟨m, t, s, d⟩ k := by
  intro x0 x1 x2 m t s d k
  kernel_rfl
theorem ok201 : FunOK Tryz.prog 201 e201 := fun_ok facts mixed (I := i201) (FnsOK.cons ok199 (FnsOK.cons ok258 (FnsOK.cons ok259 (FnsOK.cons ok260 (FnsOK.cons ok261 FnsOK.nil))))) Tryz.func201 (by kernel_rfl) (by kernel_rfl) (by kernel_rfl) (an := a201) (by kernel_rfl) (by kernel_rfl) q201
def sf141 : FT 1 2 := fun a1 m t s d k=>
 force (shiftLeft t 6) fun v2=>
 force (add t 10) fun t3=>
 okB (ble (succ t3) 4194304)<|
 sf198 a1 m t3 s d fun r4 m5 t5 s5 d5=>
 force (shiftLeft t5 6) fun v6=>
 force (add t5 2) fun t7=>
 okB (ble (succ t7) 4194304)<|
 force (xor m5 (xor (shiftLeft r4 (shiftLeft t5 6)) (mod (add r4 t5) 2305843009213693951))) fun m8=>
 ifB (ble 9223372036854776833 (xor (land a1 65535) 9223372036854775808)) (
 false)<|
 sf199 v6 1 m8 t7 s5 d5 fun r9 m10 t10 s10 d10=>
 sf199 v6 1 m10 t10 s10 d10 fun r11 m12 t12 s12 d12=>
 force (xor (land (shiftRight m12 v2) 18446744073709551615) r9) fun v13=>
 force (xor m12 (xor (shiftLeft v13 v2) (mod (add v13 v2) 2305843009213693951))) fun m14=>
 force (xor (land (shiftRight m14 (add v2 64)) 18446744073709551615) r11) fun v15=>
 force (xor m14 (xor (shiftLeft v15 (add v2 64)) (mod (add v15 (add v2 64)) 2305843009213693951))) fun m16=>
 sf199 v6 4 m16 t12 s12 d12 fun r17 m18 t18 s18 d18=>
 force (xor (land (shiftRight m18 (add v2 128)) 18446744073709551615) (mod r17 4294967296)) fun v19=>
 force (xor m18 (xor (shiftLeft v19 (add v2 128)) (mod (add v19 (add v2 128)) 2305843009213693951))) fun m20=>
 force (land (shiftRight m20 v2) 18446744073709551615) fun v21=>
 sf200 v21 m20 t18 s18 d18 fun r22 r23 m24 t24 s24 d24=>
 ifB (ifB (beq r23 1) false true) (
 false)<|
 join (fun (p25 m26 t26 s26 d26 : Nat)=>
 force (land (shiftRight m26 v6) 340282366920938463463374607431768211455) fun v28=>
 sf202 v28 m26 t26 s26 d26 fun r29 m30 t30 s30 d30=>
 ifB (ifB (beq r29 1) false true) (
 false)<|
 force (land (shiftRight m30 v2) (mask 10)) fun v31=>
 sf145 v31 m30 t30 s30 d30 fun r32 r33 m34 t34 s34 d34=>
 okB (ifB (beq r33 1) (beq r33 1) true)<|
 ifB (ifB (beq r33 1) (beq (add (land (shiftRight s34 (shiftRight r32 16)) (sub (shiftLeft 1 (shiftLeft (land r32 65535) 3)) 1)) (shiftLeft 1 (shiftLeft (land r32 65535) 3))) (add (land (shiftRight s34 (shiftRight a1 16)) (sub (shiftLeft 1 (shiftLeft (land a1 65535) 3)) 1)) (shiftLeft 1 (shiftLeft (land a1 65535) 3)))) false) (
 force (land (shiftRight m34 v2) (mask 10)) fun v35=>
 force v35 fun v36=>
 k v36 0 m34 t34 s34 d34)<|
 false) fun J27=>
 force (add (shiftLeft r22 16) 0) fun v45=>
 loopN 6 (fun (_ _ _ _ _ _ : Nat) => false) (fun L40 (p37 p38 m39 t39 s39 d39 : Nat)=>
 ifB (ble (succ (land p38 65535)) (land (shiftRight p38 16) 65535)) (
 force (land (shiftRight s39 (add (shiftRight (shiftRight p38 16) 16) (shiftLeft (land p38 65535) 3))) 255) fun v41=>
 okB (ble (succ v41) 128)<|
 force (succ (land p38 65535)) fun v42=>
 ifB true (
 sf201 v6 v2 v41 m39 t39 s39 d39 fun m43 t43 s43 d43=>
 force (add (shiftLeft (shiftRight p38 16) 16) v42) fun v44=>
 L40 p37 v44 m43 t43 s43 d43)<|
 J27 p37 m39 t39 s39 d39)<|
 ifB false (
 false)<|
 J27 p37 m39 t39 s39 d39) 0 v45 m24 t24 s24 d24
def e141 : FunE := ⟨[.one .str], [.agg (lay 227), .one (.int .i64)], wrapF 1 2 sf141⟩
def i141 : FI := ⟨64, [2], [2, 3, 4, 5, 6, 7, 8, 10, 17, 29, 36, 38, 39, 40, 50, 51, 57, 61], [(145, e145), (198, e198), (199, e199), (200, e200), (201, e201), (202, e202)], []⟩
def a141 : An := (.sq .reg (.sc (.sq .reg (.sq .reg (.sq .reg (.sq .reg (.sq (.sq .reg (.cd .dead .skip)) (.sq .reg (.sq .reg (.sq (.sq .reg (.sq .reg (.cd .dead .skip))) (.sj [(2, .loc (lay 227))] (.sq .reg (.bl (.lp [(2, .loc (lay 227)), (38, .itr)] 6 (.sq .reg (.sq (.cd .skip .ex) (.bl (.sq .reg .reg))))))) (.sq (.sq .reg (.cd .dead .skip)) (.sq (.sq .reg (.sq .reg (.cd (.sq .reg .ret) .dead))) .dead)))))))))))))
theorem q141 : AllN 1 fun l => ∀ m t s d k, R.denF i141 a141 (bodyOf Tryz.f141) Tryz.f141.results.toList e141.ps e141.rs l ⟨m, t, s, d⟩ k = wrapF 1 2 sf141 l ⟨m, t, s, d⟩ k := by
  intro x0 m t s d k
  kernel_rfl
theorem ok141 : FunOK Tryz.prog 141 e141 := fun_ok facts mixed (I := i141) (FnsOK.cons ok145 (FnsOK.cons ok198 (FnsOK.cons ok199 (FnsOK.cons ok200 (FnsOK.cons ok201 (FnsOK.cons ok202 FnsOK.nil)))))) Tryz.func141 (by kernel_rfl) (by kernel_rfl) (by kernel_rfl) (an := a141) (by kernel_rfl) (by kernel_rfl) q141
def sf142 : FT 4 1 := fun a1 a2 a3 a4 m t s d k=>
 force a3 fun v5=>
 sf132 a1 a2 m t s d fun r6 r7 m8 t8 s8 d8=>
 force r6 fun v9=>
 okB (ifB (ifB (beq r7 1) false true) true (ifB (ifB (beq r7 1) false true) false true))<|
 okB (ifB (ifB (ifB (beq r7 1) false true) true (ble 4611686018427387905 a4)) true (ifB (ifB (ifB (beq r7 1) false true) true (ble 4611686018427387905 a4)) false true))<|
 okB (ifB (ifB (ifB (ifB (beq r7 1) false true) true (ble 4611686018427387905 a4)) true (ifB (beq (land (shiftRight v9 64) 18446744073709551615) 3) false true)) true (ifB (ifB (ifB (ifB (beq r7 1) false true) true (ble 4611686018427387905 a4)) true (ifB (beq (land (shiftRight v9 64) 18446744073709551615) 3) false true)) false true))<|
 ifB (ifB (ifB (ifB (ifB (beq r7 1) false true) true (ble 4611686018427387905 a4)) true (ifB (beq (land (shiftRight v9 64) 18446744073709551615) 3) false true)) true (ifB (beq (land (shiftRight v9 192) 340282366920938463463374607431768211455) v5) false true)) (
 force (ifB false 1 0) fun v10=>
 k v10 m8 t8 s8 d8)<|
 okB (ifB (beq a1 0) false true)<|
 okB (ifB (beq a1 0) false true)<|
 okB (ble (succ a2) 33)<|
 force (xor (land (shiftRight m8 (add (add (add a1 256) (mul a2 448)) 384)) 18446744073709551615) (mod (add a4 (land (shiftRight m8 (add a1 192)) 18446744073709551615)) 18446744073709551616)) fun v11=>
 force (xor m8 (xor (shiftLeft v11 (add (add (add a1 256) (mul a2 448)) 384)) (mod (add v11 (add (add (add a1 256) (mul a2 448)) 384)) 2305843009213693951))) fun m12=>
 force (ifB true 1 0) fun v13=>
 k v13 m12 t8 s8 d8
def e142 : FunE := ⟨[.ptr (lay 198) false false, .one (.int .i64), .agg (lay 44), .one (.int .u64)], [.one .bool], wrapF 4 1 sf142⟩
def i142 : FI := ⟨46, [6, 9], [6, 8, 9, 10, 11, 19, 23, 28, 33], [(132, e132)], []⟩
def a142 : An := (.sq .reg (.sq .reg (.sq (.sq .reg (.cd (.sq .reg .ret) .skip)) (.sq (.drw [(0, 0), (1, 0), (2, 0), (3, 0), (4, 0), (5, 0), (6, 0), (7, 0), (8, 0), (9, 0), (10, 0), (11, 0), (12, 1)]) (.sq .reg .ret)))))
theorem q142 : AllN 4 fun l => ∀ m t s d k, R.denF i142 a142 (bodyOf Tryz.f142) Tryz.f142.results.toList e142.ps e142.rs l ⟨m, t, s, d⟩ k = wrapF 4 1 sf142 l ⟨m, t, s, d⟩ k := by
  intro x0 x1 x2 x3 m t s d k
  kernel_rfl
theorem ok142 : FunOK Tryz.prog 142 e142 := fun_ok facts mixed (I := i142) (FnsOK.cons ok132 FnsOK.nil) Tryz.func142 (by kernel_rfl) (by kernel_rfl) (by kernel_rfl) (an := a142) (by kernel_rfl) (by kernel_rfl) q142
def sf106 : FT 1 1 := fun a1 m t s d k=>
 sf40 0 m t s d fun r2 m3 t3 s3 d3=>
 ifB (ifB (beq r2 1) false true) (
 false)<|
 k 0 m3 t3 s3 d3
def e106 : FunE := ⟨[.one (.cst 0)], [.one (.cst 0)], wrapF 1 1 sf106⟩
def i106 : FI := ⟨8, [], [2, 5], [(40, e40)], []⟩
def a106 : An := (.sq .reg (.sq (.sq .reg (.cd .dead .skip)) (.sq .reg .ret)))
theorem q106 : AllN 1 fun l => ∀ m t s d k, R.denF i106 a106 (bodyOf Tryz.f106) Tryz.f106.results.toList e106.ps e106.rs l ⟨m, t, s, d⟩ k = wrapF 1 1 sf106 l ⟨m, t, s, d⟩ k := by
  intro x0 m t s d k
  kernel_rfl
theorem ok106 : FunOK Tryz.prog 106 e106 := fun_ok facts mixed (I := i106) (FnsOK.cons ok40 FnsOK.nil) Tryz.func106 (by kernel_rfl) (by kernel_rfl) (by kernel_rfl) (an := a106) (by kernel_rfl) (by kernel_rfl) q106
def sf203 : FT 4 0 := fun a1 a2 a3 a4 m t s d k=>
 force a2 fun v5=>
 force a3 fun v6=>
 ifB (ifB (beq a4 1) false true) (
 false)<|
 okB (ifB (beq a1 0) false true)<|
 sf106 0 m t s d fun r7 m8 t8 s8 d8=>
 okB (beq (land (shiftRight v6 128) 18446744073709551615) (land (shiftRight v6 128) 18446744073709551615))<|
 sf118 a1 m8 t8 s8 d8 fun r9 m10 t10 s10 d10=>
 okB (beq (land (shiftRight v6 128) 18446744073709551615) (land (shiftRight v6 128) 18446744073709551615))<|
 okB true<|
 okB (beq (land (shiftRight v6 128) 18446744073709551615) (land (shiftRight v6 128) 18446744073709551615))<|
 force (xor (xor (xor 2 (shiftLeft (land (shiftRight v6 128) 18446744073709551615) 128)) (shiftLeft 0 384)) (shiftLeft r9 576)) fun v11=>
 force (land (shiftRight v6 64) 18446744073709551615) fun v12=>
 force v11 fun v13=>
 sf108 a1 v12 v13 m10 t10 s10 d10 fun r14 m15 t15 s15 d15=>
 ifB (ifB (beq r14 1) false true) (
 false)<|
 k m15 t15 s15 d15
def e203 : FunE := ⟨[.ptr (lay 104) false false, .agg (lay 44), .agg (lay 227), .one .bool], [], wrapF 4 0 sf203⟩
def i203 : FI := ⟨32, [5, 6, 8], [5, 6, 8, 10, 27], [(106, e106), (108, e108), (118, e118)], []⟩
def a203 : An := (.sq .reg (.sq (.sq .reg (.cd .dead .skip)) (.sq (.drw [(0, 0), (1, 0), (2, 0), (3, 0), (4, 0), (5, 0), (6, 0), (8, 0), (7, 1), (9, 1), (10, 0), (11, 2), (12, 1)]) (.sq .reg (.cd .dead .skip)))))
theorem q203 : AllN 4 fun l => ∀ m t s d k, R.denF i203 a203 (bodyOf Tryz.f203) Tryz.f203.results.toList e203.ps e203.rs l ⟨m, t, s, d⟩ k = wrapF 4 0 sf203 l ⟨m, t, s, d⟩ k := by
  intro x0 x1 x2 x3 m t s d k
  kernel_rfl
theorem ok203 : FunOK Tryz.prog 203 e203 := fun_ok facts mixed (I := i203) (FnsOK.cons ok106 (FnsOK.cons ok108 (FnsOK.cons ok118 FnsOK.nil))) Tryz.func203 (by kernel_rfl) (by kernel_rfl) (by kernel_rfl) (an := a203) (by kernel_rfl) (by kernel_rfl) q203
def sf262 : FT 2 2 := fun a1 a2 m t s d k=>
 force a1 fun v3=>
 okB (ifB (beq (land (shiftRight v3 0) 18446744073709551615) 0) true (ifB (beq (land (shiftRight v3 0) 18446744073709551615) 0) false true))<|
 ifB (ifB (beq (land (shiftRight v3 0) 18446744073709551615) 0) true (ifB (beq (land (shiftRight v3 192) 18446744073709551615) a2) false true)) (
 false)<|
 force v3 fun v4=>
 sf170 v4 m t s d fun r5 m6 t6 s6 d6=>
 force r5 fun v7=>
 force v7 fun v8=>
 force (ifB true 1 0) fun v9=>
 k v8 v9 m6 t6 s6 d6
def e262 : FunE := ⟨[.agg (lay 95), .one (.int .u32)], [.agg (lay 95), .one .bool], wrapF 2 2 sf262⟩
def i262 : FI := ⟨18, [2, 4], [2, 4, 5, 9, 14], [(170, e170)], []⟩
def a262 : An := (.sq .reg (.sq (.sq .reg (.cd .dead .skip)) (.sq .reg .ret)))
theorem q262 : AllN 2 fun l => ∀ m t s d k, R.denF i262 a262 (bodyOf Tryz.f262) Tryz.f262.results.toList e262.ps e262.rs l ⟨m, t, s, d⟩ k = wrapF 2 2 sf262 l ⟨m, t, s, d⟩ k := by
  intro x0 x1 m t s d k
  kernel_rfl
theorem ok262 : FunOK Tryz.prog 262 e262 := fun_ok facts mixed (I := i262) (FnsOK.cons ok170 FnsOK.nil) Tryz.func262 (by kernel_rfl) (by kernel_rfl) (by kernel_rfl) (an := a262) (by kernel_rfl) (by kernel_rfl) q262
def sf263 : FT 2 1 := fun a1 a2 m t s d k=>
 join (fun (m3 t3 s3 d3 : Nat)=>
 k 18446744073709551615 m3 t3 s3 d3) fun J4=>
 force (land (shiftRight a1 28) 131071) fun v5=>
 loopN 4 (fun (_ _ _ _ _ : Nat) => false) (fun L8 (p6 m7 t7 s7 d7 : Nat)=>
 ifB (ble (succ (xor p6 9223372036854775808)) (xor v5 9223372036854775808)) (
 false)<|
 J4 m7 t7 s7 d7) 0 m t s d
def e263 : FunE := ⟨[.sli (lay 393), .one .fn], [.one (.int .i64)], wrapF 2 1 sf263⟩
def i263 : FI := ⟨19, [], [4, 5, 7, 8, 9, 16], [], []⟩
def a263 : An := (.sq .reg (.sj [] (.sq .reg (.bl (.lp [(8, .sh (.one (.int .i64)))] 4 (.sq .reg (.sq (.cd .dead .ex) .dead))))) (.sq .reg .ret)))
theorem q263 : AllN 2 fun l => ∀ m t s d k, R.denF i263 a263 (bodyOf Tryz.f263) Tryz.f263.results.toList e263.ps e263.rs l ⟨m, t, s, d⟩ k = wrapF 2 1 sf263 l ⟨m, t, s, d⟩ k := by
  intro x0 x1 m t s d k
  kernel_rfl
theorem ok263 : FunOK Tryz.prog 263 e263 := fun_ok facts mixed (I := i263) FnsOK.nil Tryz.func263 (by kernel_rfl) (by kernel_rfl) (by kernel_rfl) (an := a263) (by kernel_rfl) (by kernel_rfl) q263
def sf204 : FT 2 0 := fun a1 a2 m t s d k=>
 force (shiftLeft t 6) fun v3=>
 force (add t 10) fun t4=>
 okB (ble (succ t4) 4194304)<|
 force (xor m (xor (shiftLeft a2 (shiftLeft t 6)) (mod (add a2 t) 2305843009213693951))) fun m5=>
 okB (ifB (beq a1 0) false true)<|
 force (land (shiftRight m5 (add a1 1152)) (mask 7)) fun v6=>
 force (land (shiftRight m5 (add v3 128)) 18446744073709551615) fun v7=>
 sf262 v6 v7 m5 t4 s d fun r8 r9 m10 t10 s10 d10=>
 okB (ifB (beq a1 0) false true)<|
 force (xor (land (shiftRight m10 (add a1 1152)) (mask 7)) r8) fun v11=>
 force (xor m10 (xor (shiftLeft v11 (add a1 1152)) (mod (add v11 (add a1 1152)) 2305843009213693951))) fun m12=>
 okB (ifB (beq a1 0) false true)<|
 okB (ifB (beq v3 0) false (ble (succ v3) 268435456))<|
 force (land (shiftRight m12 (add a1 1920)) 18446744073709551615) fun v13=>
 force (add 265 (shiftLeft (shiftRight v3 6) 10)) fun v14=>
 sf263 v13 v14 m12 t10 s10 d10 fun r15 m16 t16 s16 d16=>
 ifB (ble (succ (xor r15 9223372036854775808)) 9223372036854775808) (
 k m16 t16 s16 d16)<|
 false
def e204 : FunE := ⟨[.ptr (lay 104) false false, .agg (lay 227)], [], wrapF 2 0 sf204⟩
def i204 : FI := ⟨60, [5], [3, 4, 5, 6, 26], [(262, e262), (263, e263)], []⟩
def a204 : An := (.sq .reg (.sq (.drw [(0, 0), (1, 0), (2, 0), (3, 0), (4, 0), (5, 0), (6, 0), (7, 1), (8, 0), (9, 0), (10, 0), (11, 0), (12, 0), (13, 1)]) (.sq .reg (.sq (.sq .reg (.cd .ret .dead)) .dead))))
theorem q204 : AllN 2 fun l => ∀ m t s d k, R.denF i204 a204 (bodyOf Tryz.f204) Tryz.f204.results.toList e204.ps e204.rs l ⟨m, t, s, d⟩ k = wrapF 2 0 sf204 l ⟨m, t, s, d⟩ k := by
  intro x0 x1 m t s d k
  kernel_rfl
theorem ok204 : FunOK Tryz.prog 204 e204 := fun_ok facts mixed (I := i204) (FnsOK.cons ok262 (FnsOK.cons ok263 FnsOK.nil)) Tryz.func204 (by kernel_rfl) (by kernel_rfl) (by kernel_rfl) (an := a204) (by kernel_rfl) (by kernel_rfl) q204
def sf208 : FT 3 0 := fun a1 a2 a3 m t s d k=>
 force a2 fun v4=>
 force a3 fun v5=>
 force (land (shiftRight v5 448) 18446744073709551615) fun v6=>
 ifB (beq v6 1) (
 false)<|
 force v4 fun v7=>
 force (xor (xor 7 (shiftLeft (land (shiftRight v5 128) 18446744073709551615) 128)) (shiftLeft v4 256)) fun v8=>
 sf105 a1 v7 v8 m t s d fun m9 t9 s9 d9=>
 okB (ifB (beq a1 0) false true)<|
 force (land (shiftRight v5 64) 18446744073709551615) fun v10=>
 sf107 a1 v10 m9 t9 s9 d9 fun r11 m12 t12 s12 d12=>
 okB (beq (land (shiftRight m12 (add a1 1088)) 18446744073709551615) (land (shiftRight m9 (add a1 1088)) 18446744073709551615))<|
 force (land (shiftRight m9 (add a1 1088)) 18446744073709551615) fun v13=>
 sf117 v13 r11 1 m12 t12 s12 d12 fun r14 m15 t15 s15 d15=>
 force (land (shiftRight r14 28) 131071) fun v16=>
 loopN 4 (fun (_ _ _ _ _ : Nat) => false) (fun L19 (p17 m18 t18 s18 d18 : Nat)=>
 ifB (ble (succ (xor p17 9223372036854775808)) (xor v16 9223372036854775808)) (
 false)<|
 k m18 t18 s18 d18) 0 m15 t15 s15 d15
def e208 : FunE := ⟨[.ptr (lay 104) false false, .agg (lay 44), .agg (lay 227)], [], wrapF 3 0 sf208⟩
def i208 : FI := ⟨48, [4, 5], [4, 5, 7, 9, 34, 35, 36, 37], [(105, e105), (107, e107), (117, e117)], []⟩
def a208 : An := (.sq .reg (.sq (.sq .reg (.cd .dead .skip)) (.sq .reg (.sq (.drw [(0, 0), (1, 0), (2, 0), (3, 0), (4, 0), (5, 0), (6, 0), (10, 0), (7, 1), (8, 1), (9, 0)]) (.bl (.lp [(36, .sh (.one (.int .i64)))] 4 (.sq .reg (.sq (.cd .dead .ex) .dead))))))))
theorem q208 : AllN 3 fun l => ∀ m t s d k, R.denF i208 a208 (bodyOf Tryz.f208) Tryz.f208.results.toList e208.ps e208.rs l ⟨m, t, s, d⟩ k = wrapF 3 0 sf208 l ⟨m, t, s, d⟩ k := by
  intro x0 x1 x2 m t s d k
  kernel_rfl
theorem ok208 : FunOK Tryz.prog 208 e208 := fun_ok facts mixed (I := i208) (FnsOK.cons ok105 (FnsOK.cons ok107 (FnsOK.cons ok117 FnsOK.nil))) Tryz.func208 (by kernel_rfl) (by kernel_rfl) (by kernel_rfl) (an := a208) (by kernel_rfl) (by kernel_rfl) q208
def sf267 : FT 4 1 := fun a1 a2 a3 a4 m t s d k=>
 force a3 fun v5=>
 okB (ifB (ble (succ (xor a2 9223372036854775808)) 9223372036854775809) true (ifB (ble (succ (xor a2 9223372036854775808)) 9223372036854775809) false true))<|
 join (fun (r6 m7 t7 s7 d7 : Nat)=>
 okB (ifB (ifB (ble (succ (xor a2 9223372036854775808)) 9223372036854775809) true (ble 9223372036854775841 (xor a2 9223372036854775808))) true (ifB (ifB (ble (succ (xor a2 9223372036854775808)) 9223372036854775809) true (ble 9223372036854775841 (xor a2 9223372036854775808))) false true))<|
 okB (ifB (ifB (ifB (ble (succ (xor a2 9223372036854775808)) 9223372036854775809) true (ble 9223372036854775841 (xor a2 9223372036854775808))) true (beq r6 1)) true (ifB (ifB (ifB (ble (succ (xor a2 9223372036854775808)) 9223372036854775809) true (ble 9223372036854775841 (xor a2 9223372036854775808))) true (beq r6 1)) false true))<|
 ifB (ifB (ifB (ifB (ble (succ (xor a2 9223372036854775808)) 9223372036854775809) true (ble 9223372036854775841 (xor a2 9223372036854775808))) true (beq r6 1)) true (ble 4611686018427387905 a4)) (
 false)<|
 okB (ifB (beq a1 0) false true)<|
 okB (ble (succ a2) 33)<|
 force (xor (land (shiftRight m7 (add (add a1 128) (mul a2 256))) (mask 4)) (xor (xor a2 (shiftLeft v5 64)) (shiftLeft a4 192))) fun v9=>
 force (xor m7 (xor (shiftLeft v9 (add (add a1 128) (mul a2 256))) (mod (add v9 (add (add a1 128) (mul a2 256))) 2305843009213693951))) fun m10=>
 k 0 m10 t7 s7 d7) fun J8=>
 ifB (ifB (ifB (ble (succ (xor a2 9223372036854775808)) 9223372036854775809) true (ble 9223372036854775841 (xor a2 9223372036854775808))) false true) (
 force v5 fun v11=>
 sf57 v11 m t s d fun r12 m13 t13 s13 d13=>
 J8 r12 m13 t13 s13 d13)<|
 J8 0 m t s d
def e267 : FunE := ⟨[.ptr (lay 183) false false, .one (.int .i64), .agg (lay 44), .one (.int .u64)], [.one (.int .i64)], wrapF 4 1 sf267⟩
def i267 : FI := ⟨32, [6], [6, 8, 11, 15, 19, 22], [(57, e57)], []⟩
def a267 : An := (.sq .reg (.sq (.sq .reg (.cd .dead .skip)) (.sq (.drw [(0, 0), (1, 0), (2, 0), (3, 0), (4, 0), (5, 0), (6, 0), (7, 0), (8, 0), (9, 1)]) (.sq .reg .ret))))
theorem q267 : AllN 4 fun l => ∀ m t s d k, R.denF i267 a267 (bodyOf Tryz.f267) Tryz.f267.results.toList e267.ps e267.rs l ⟨m, t, s, d⟩ k = wrapF 4 1 sf267 l ⟨m, t, s, d⟩ k := by
  intro x0 x1 x2 x3 m t s d k
  kernel_rfl
theorem ok267 : FunOK Tryz.prog 267 e267 := fun_ok facts mixed (I := i267) (FnsOK.cons ok57 FnsOK.nil) Tryz.func267 (by kernel_rfl) (by kernel_rfl) (by kernel_rfl) (an := a267) (by kernel_rfl) (by kernel_rfl) q267
def sf209 : FT 3 0 := fun a1 a2 a3 m t s d k=>
 force a3 fun v4=>
 force (land (shiftRight v4 448) 18446744073709551615) fun v5=>
 ifB (beq v5 1) (
 false)<|
 okB (ifB (beq a1 0) false true)<|
 force (land (shiftRight m (add a1 1664)) 18446744073709551615) fun v6=>
 force (land (shiftRight v4 64) 18446744073709551615) fun v7=>
 force (land (shiftRight v4 256) 340282366920938463463374607431768211455) fun v8=>
 sf267 v6 v7 v8 a2 m t s d fun r9 m10 t10 s10 d10=>
 k m10 t10 s10 d10
def e209 : FunE := ⟨[.ptr (lay 104) false false, .one (.int .u64), .agg (lay 227)], [], wrapF 3 0 sf209⟩
def i209 : FI := ⟨25, [5], [5, 7], [(267, e267)], []⟩
def a209 : An := (.sq .reg (.sq (.sq .reg (.cd .dead .skip)) (.drw [(0, 0), (1, 0), (2, 0), (3, 0), (4, 0), (5, 0), (6, 0), (7, 0), (8, 0), (9, 1)])))
theorem q209 : AllN 3 fun l => ∀ m t s d k, R.denF i209 a209 (bodyOf Tryz.f209) Tryz.f209.results.toList e209.ps e209.rs l ⟨m, t, s, d⟩ k = wrapF 3 0 sf209 l ⟨m, t, s, d⟩ k := by
  intro x0 x1 x2 m t s d k
  kernel_rfl
theorem ok209 : FunOK Tryz.prog 209 e209 := fun_ok facts mixed (I := i209) (FnsOK.cons ok267 FnsOK.nil) Tryz.func209 (by kernel_rfl) (by kernel_rfl) (by kernel_rfl) (an := a209) (by kernel_rfl) (by kernel_rfl) q209
def sf268 : FT 4 1 := fun a1 a2 a3 a4 m t s d k=>
 force a3 fun v5=>
 sf177 a2 m t s d fun r6 m7 t7 s7 d7=>
 okB (ifB (ifB (beq r6 1) false true) true (ifB (ifB (beq r6 1) false true) false true))<|
 join (fun (r8 m9 t9 s9 d9 : Nat)=>
 okB (ifB (ifB (ifB (beq r6 1) false true) true (ble 4611686018427387905 a4)) true (ifB (ifB (ifB (beq r6 1) false true) true (ble 4611686018427387905 a4)) false true))<|
 ifB (ifB (ifB (ifB (beq r6 1) false true) true (ble 4611686018427387905 a4)) true (beq r8 1)) (
 false)<|
 okB (ifB (beq a1 0) false true)<|
 okB (ifB (beq a1 0) false true)<|
 okB (ifB (beq a1 0) false true)<|
 okB (ble (succ a2) 33)<|
 force (xor (land (shiftRight m9 (add (add a1 256) (mul a2 448))) (mask 7)) (xor (xor (xor (xor a2 55340232221128654848) (shiftLeft v5 192)) (shiftLeft (mod (add a4 (land (shiftRight m9 (add a1 128)) 18446744073709551615)) 18446744073709551616) 320)) (shiftLeft (mod (add a4 (land (shiftRight m9 (add a1 192)) 18446744073709551615)) 18446744073709551616) 384))) fun v11=>
 force (xor m9 (xor (shiftLeft v11 (add (add a1 256) (mul a2 448))) (mod (add v11 (add (add a1 256) (mul a2 448))) 2305843009213693951))) fun m12=>
 k 0 m12 t9 s9 d9) fun J10=>
 ifB (ifB (ifB (ifB (beq r6 1) false true) true (ble 4611686018427387905 a4)) false true) (
 force v5 fun v13=>
 sf57 v13 m7 t7 s7 d7 fun r14 m15 t15 s15 d15=>
 J10 r14 m15 t15 s15 d15)<|
 J10 0 m7 t7 s7 d7
def e268 : FunE := ⟨[.ptr (lay 198) false false, .one (.int .i64), .agg (lay 44), .one (.int .u64)], [.one (.int .i64)], wrapF 4 1 sf268⟩
def i268 : FI := ⟨40, [6], [6, 8, 12, 16, 19], [(57, e57), (177, e177)], []⟩
def a268 : An := (.sq .reg (.sq (.sq .reg (.cd .dead .skip)) (.sq (.drw [(0, 0), (1, 0), (2, 0), (3, 0), (4, 0), (5, 0), (6, 0), (7, 0), (8, 0), (9, 0), (10, 0), (11, 0), (12, 0), (13, 0), (14, 0), (15, 0), (16, 0), (17, 0), (18, 0), (19, 0), (20, 1)]) (.sq .reg .ret))))
theorem q268 : AllN 4 fun l => ∀ m t s d k, R.denF i268 a268 (bodyOf Tryz.f268) Tryz.f268.results.toList e268.ps e268.rs l ⟨m, t, s, d⟩ k = wrapF 4 1 sf268 l ⟨m, t, s, d⟩ k := by
  intro x0 x1 x2 x3 m t s d k
  kernel_rfl
theorem ok268 : FunOK Tryz.prog 268 e268 := fun_ok facts mixed (I := i268) (FnsOK.cons ok57 (FnsOK.cons ok177 FnsOK.nil)) Tryz.func268 (by kernel_rfl) (by kernel_rfl) (by kernel_rfl) (an := a268) (by kernel_rfl) (by kernel_rfl) q268
def sf210 : FT 5 0 := fun a1 a2 a3 a4 a5 m t s d k=>
 force a3 fun v6=>
 force a4 fun v7=>
 ifB (ifB (beq a5 1) false true) (
 false)<|
 join (fun (m8 t8 s8 d8 : Nat)=>
 okB (ifB (beq a1 0) false true)<|
 force (land (shiftRight m8 (add a1 1856)) 18446744073709551615) fun v10=>
 force (land (shiftRight v7 64) 18446744073709551615) fun v11=>
 force v6 fun v12=>
 sf268 v10 v11 v12 a2 m8 t8 s8 d8 fun r13 m14 t14 s14 d14=>
 k m14 t14 s14 d14) fun J9=>
 ifB (beq (land (shiftRight v7 0) 18446744073709551615) 8) (
 force v6 fun v15=>
 force (xor 9 (shiftLeft (land (shiftRight v7 64) 18446744073709551615) 192)) fun v16=>
 sf105 a1 v15 v16 m t s d fun m17 t17 s17 d17=>
 J9 m17 t17 s17 d17)<|
 J9 m t s d
def e210 : FunE := ⟨[.ptr (lay 104) false false, .one (.int .u64), .agg (lay 44), .agg (lay 227), .one .bool], [], wrapF 5 0 sf210⟩
def i210 : FI := ⟨30, [7, 8], [7, 8, 11, 14], [(105, e105), (268, e268)], []⟩
def a210 : An := (.sq .reg (.sq (.sq .reg (.cd .dead .skip)) (.sj [] (.sq .reg (.cd .reg .skip)) (.drw [(0, 0), (1, 0), (2, 0), (3, 0), (4, 0), (5, 0), (6, 0), (7, 0), (8, 1)]))))
theorem q210 : AllN 5 fun l => ∀ m t s d k, R.denF i210 a210 (bodyOf Tryz.f210) Tryz.f210.results.toList e210.ps e210.rs l ⟨m, t, s, d⟩ k = wrapF 5 0 sf210 l ⟨m, t, s, d⟩ k := by
  intro x0 x1 x2 x3 x4 m t s d k
  kernel_rfl
theorem ok210 : FunOK Tryz.prog 210 e210 := fun_ok facts mixed (I := i210) (FnsOK.cons ok105 (FnsOK.cons ok268 FnsOK.nil)) Tryz.func210 (by kernel_rfl) (by kernel_rfl) (by kernel_rfl) (an := a210) (by kernel_rfl) (by kernel_rfl) q210
def sf269 : FT 4 2 := fun a1 a2 a3 a4 m t s d k=>
 force a3 fun v5=>
 sf179 a2 m t s d fun r6 m7 t7 s7 d7=>
 join (fun (r8 m9 t9 s9 d9 : Nat)=>
 okB (ifB (ifB (beq r6 1) false true) true (ifB (ifB (beq r6 1) false true) false true))<|
 okB (ifB (ifB (ifB (beq r6 1) false true) true (beq r8 1)) true (ifB (ifB (ifB (beq r6 1) false true) true (beq r8 1)) false true))<|
 ifB (ifB (ifB (ifB (beq r6 1) false true) true (beq r8 1)) true (ble 4611686018427387905 a4)) (
 false)<|
 sf94 a1 a4 m9 t9 s9 d9 fun r11 m12 t12 s12 d12=>
 okB (ifB (beq a1 0) false true)<|
 okB (ble (succ a2) 33)<|
 okB (ifB (beq (land (shiftRight m12 (add (add a1 128) (mul a2 256))) 18446744073709551615) 0) (ifB (beq a1 0) false true) true)<|
 join (fun (r13 m14 t14 s14 d14 : Nat)=>
 okB (ifB (beq (land (shiftRight m12 (add (add a1 128) (mul a2 256))) 18446744073709551615) 0) (beq (land (shiftRight m14 a1) 18446744073709551615) (land (shiftRight m12 a1) 18446744073709551615)) true)<|
 okB (ifB (beq (land (shiftRight m12 (add (add a1 128) (mul a2 256))) 18446744073709551615) 0) (beq (land (shiftRight m12 (add (add a1 128) (mul a2 256))) 18446744073709551615) 0) true)<|
 ifB (ifB (beq (land (shiftRight m12 (add (add a1 128) (mul a2 256))) 18446744073709551615) 0) (ifB (ble (succ (xor (land (shiftRight r13 28) 131071) 9223372036854775808)) (xor (land (shiftRight m12 a1) 18446744073709551615) 9223372036854775808)) false true) false) (
 false)<|
 okB (ifB (beq a1 0) false true)<|
 okB (ifB (beq a1 0) false true)<|
 okB (ble (succ a2) 33)<|
 force (xor (land (shiftRight m14 (add (add a1 128) (mul a2 256))) (mask 4)) (xor (xor a2 (shiftLeft v5 64)) (shiftLeft (mod (add a4 (land (shiftRight m14 (add a1 64)) 18446744073709551615)) 18446744073709551616) 192))) fun v16=>
 force (xor m14 (xor (shiftLeft v16 (add (add a1 128) (mul a2 256))) (mod (add v16 (add (add a1 128) (mul a2 256))) 2305843009213693951))) fun m17=>
 okB (ifB (beq a1 0) false true)<|
 okB (ble (succ a2) 33)<|
 force (land (shiftRight m17 (add (add (add a1 128) (mul a2 256)) 192)) 18446744073709551615) fun v18=>
 k v18 0 m17 t14 s14 d14) fun J15=>
 ifB (beq (land (shiftRight m12 (add (add a1 128) (mul a2 256))) 18446744073709551615) 0) (
 sf133 a1 m12 t12 s12 d12 fun r19 m20 t20 s20 d20=>
 J15 r19 m20 t20 s20 d20)<|
 J15 0 m12 t12 s12 d12) fun J10=>
 ifB (ifB (ifB (beq r6 1) false true) false true) (
 force v5 fun v21=>
 sf57 v21 m7 t7 s7 d7 fun r22 m23 t23 s23 d23=>
 J10 r22 m23 t23 s23 d23)<|
 J10 0 m7 t7 s7 d7
def e269 : FunE := ⟨[.ptr (lay 188) false false, .one (.int .i64), .agg (lay 44), .one (.int .u64)], [.one (.int .u64), .one (.int .i64)], wrapF 4 2 sf269⟩
def i269 : FI := ⟨63, [6], [6, 8, 9, 13, 17, 20, 32, 41], [(57, e57), (94, e94), (133, e133), (179, e179)], []⟩
def a269 : An := (.sq .reg (.sq (.sq .reg (.cd .dead .skip)) (.sq .reg (.sq (.sq (.drw [(0, 0), (1, 0), (2, 0), (3, 0), (4, 0), (5, 0), (6, 0), (7, 0), (8, 0), (9, 0), (12, 0), (13, 0), (14, 0), (15, 0), (10, 1), (11, 0), (16, 0), (17, 0)]) (.cd .dead .skip)) (.sq (.drw [(0, 0), (1, 0), (2, 0), (3, 0), (4, 0), (5, 0), (6, 0), (7, 0), (8, 0), (9, 0), (10, 0), (11, 0), (12, 0), (13, 0), (14, 1)]) (.sq .reg .ret))))))
theorem q269 : AllN 4 fun l => ∀ m t s d k, R.denF i269 a269 (bodyOf Tryz.f269) Tryz.f269.results.toList e269.ps e269.rs l ⟨m, t, s, d⟩ k = wrapF 4 2 sf269 l ⟨m, t, s, d⟩ k := by
  intro x0 x1 x2 x3 m t s d k
  kernel_rfl
theorem ok269 : FunOK Tryz.prog 269 e269 := fun_ok facts mixed (I := i269) (FnsOK.cons ok57 (FnsOK.cons ok94 (FnsOK.cons ok133 (FnsOK.cons ok179 FnsOK.nil)))) Tryz.func269 (by kernel_rfl) (by kernel_rfl) (by kernel_rfl) (an := a269) (by kernel_rfl) (by kernel_rfl) q269
def sf211 : FT 4 0 := fun a1 a2 a3 a4 m t s d k=>
 force a3 fun v5=>
 force a4 fun v6=>
 okB (ifB (beq a1 0) false true)<|
 force (land (shiftRight m (add a1 1728)) 18446744073709551615) fun v7=>
 force (land (shiftRight v6 64) 18446744073709551615) fun v8=>
 sf183 v7 v8 a2 m t s d fun r9 r10 m11 t11 s11 d11=>
 okB (beq (land (shiftRight v6 64) 18446744073709551615) (land (shiftRight v6 64) 18446744073709551615))<|
 okB (beq (land (shiftRight m11 (add a1 1728)) 18446744073709551615) (land (shiftRight m (add a1 1728)) 18446744073709551615))<|
 force r9 fun v12=>
 sf90 a1 m11 t11 s11 d11 fun r13 m14 t14 s14 d14=>
 ifB (ifB (beq r13 1) false true) (
 k m14 t14 s14 d14)<|
 join (fun (p15 m16 t16 s16 d16 : Nat)=>
 ifB (beq p15 1) (
 okB (ifB (beq a1 0) false true)<|
 force (land (shiftRight m16 (add a1 1728)) 18446744073709551615) fun v18=>
 force (land (shiftRight v6 64) 18446744073709551615) fun v19=>
 force v5 fun v20=>
 sf269 v18 v19 v20 a2 m16 t16 s16 d16 fun r21 r22 m23 t23 s23 d23=>
 force v5 fun v24=>
 force (xor 11 (shiftLeft (ifB (beq r22 0) 1 0) 448)) fun v25=>
 sf105 a1 v24 v25 m23 t23 s23 d23 fun m26 t26 s26 d26=>
 k m26 t26 s26 d26)<|
 ifB (beq (land (shiftRight v6 0) 18446744073709551615) 10) (
 false)<|
 k m16 t16 s16 d16) fun J17=>
 force (land (shiftRight v6 448) 18446744073709551615) fun v27=>
 ifB (beq v27 1) (
 J17 v27 m14 t14 s14 d14)<|
 okB (ifB (beq (land (shiftRight v6 0) 18446744073709551615) 12) (beq (land (shiftRight v6 0) 18446744073709551615) 12) true)<|
 force (ifB (ifB (beq (land (shiftRight v6 0) 18446744073709551615) 12) (beq r10 1) false) 1 0) fun v28=>
 J17 v28 m14 t14 s14 d14
def e211 : FunE := ⟨[.ptr (lay 104) false false, .one (.int .u64), .agg (lay 44), .agg (lay 227)], [], wrapF 4 0 sf211⟩
def i211 : FI := ⟨65, [6, 7, 8], [6, 7, 9, 11, 12, 23, 27, 33, 36, 54], [(90, e90), (105, e105), (183, e183), (269, e269)], []⟩
def a211 : An := (.sq .reg (.sq (.drw [(0, 0), (1, 0), (2, 0), (3, 0), (4, 0), (5, 0), (6, 0), (7, 1), (8, 0), (9, 0), (10, 0), (11, 2), (12, 1), (13, 0)]) (.bl (.sq .reg (.cd .skip (.sj [(27, .sh (.one .bool))] (.sq .reg (.cd .skip .reg)) (.cd (.sq (.drw [(0, 0), (1, 0), (2, 0), (3, 0), (4, 0), (5, 0), (6, 0), (7, 0), (8, 1), (9, 0), (10, 0), (11, 0), (12, 0), (13, 0)]) .reg) (.sq .reg (.cd .dead .skip)))))))))
theorem q211 : AllN 4 fun l => ∀ m t s d k, R.denF i211 a211 (bodyOf Tryz.f211) Tryz.f211.results.toList e211.ps e211.rs l ⟨m, t, s, d⟩ k = wrapF 4 0 sf211 l ⟨m, t, s, d⟩ k := by
  intro x0 x1 x2 x3 m t s d k
  kernel_rfl
theorem ok211 : FunOK Tryz.prog 211 e211 := fun_ok facts mixed (I := i211) (FnsOK.cons ok90 (FnsOK.cons ok105 (FnsOK.cons ok183 (FnsOK.cons ok269 FnsOK.nil)))) Tryz.func211 (by kernel_rfl) (by kernel_rfl) (by kernel_rfl) (an := a211) (by kernel_rfl) (by kernel_rfl) q211
def sf270 : FT 4 1 := fun a1 a2 a3 a4 m t s d k=>
 sf179 a2 m t s d fun r5 m6 t6 s6 d6=>
 okB (ifB (ifB (ifB (beq r5 1) false true) false true) (ifB (beq a1 0) false true) true)<|
 okB (ifB (ifB (ifB (beq r5 1) false true) false true) (ble (succ a2) 33) true)<|
 okB (ifB (ifB (beq r5 1) false true) true (ifB (ifB (beq r5 1) false true) false true))<|
 okB (ifB (ifB (ifB (beq r5 1) false true) true (beq (land (shiftRight m6 (add (add a1 128) (mul a2 192))) 18446744073709551615) 0)) true (ifB (ifB (ifB (beq r5 1) false true) true (beq (land (shiftRight m6 (add (add a1 128) (mul a2 192))) 18446744073709551615) 0)) false true))<|
 ifB (ifB (ifB (ifB (beq r5 1) false true) true (beq (land (shiftRight m6 (add (add a1 128) (mul a2 192))) 18446744073709551615) 0)) true (ifB (ble (succ a4) a3) false true)) (
 false)<|
 okB (ifB (beq a1 0) false true)<|
 okB (ble (succ a2) 33)<|
 force (xor (land (shiftRight m6 (add (add (add a1 128) (mul a2 192)) 64)) 18446744073709551615) (ifB (ble (succ a3) 4611686018427387904) a3 4611686018427387904)) fun v7=>
 force (xor m6 (xor (shiftLeft v7 (add (add (add a1 128) (mul a2 192)) 64)) (mod (add v7 (add (add (add a1 128) (mul a2 192)) 64)) 2305843009213693951))) fun m8=>
 force (ifB true 1 0) fun v9=>
 k v9 m8 t6 s6 d6
def e270 : FunE := ⟨[.ptr (lay 193) false false, .one (.int .i64), .one (.int .u64), .one (.int .u64)], [.one .bool], wrapF 4 1 sf270⟩
def i270 : FI := ⟨35, [], [8, 12, 22, 26], [(179, e179)], []⟩
def a270 : An := (.sq .reg (.sq (.sq .reg (.cd .dead .skip)) (.sq .reg (.sq .reg .ret))))
theorem q270 : AllN 4 fun l => ∀ m t s d k, R.denF i270 a270 (bodyOf Tryz.f270) Tryz.f270.results.toList e270.ps e270.rs l ⟨m, t, s, d⟩ k = wrapF 4 1 sf270 l ⟨m, t, s, d⟩ k := by
  intro x0 x1 x2 x3 m t s d k
  kernel_rfl
theorem ok270 : FunOK Tryz.prog 270 e270 := fun_ok facts mixed (I := i270) (FnsOK.cons ok179 FnsOK.nil) Tryz.func270 (by kernel_rfl) (by kernel_rfl) (by kernel_rfl) (an := a270) (by kernel_rfl) (by kernel_rfl) q270
def sf212 : FT 3 0 := fun a1 a2 a3 m t s d k=>
 force a3 fun v4=>
 force (land (shiftRight v4 448) 18446744073709551615) fun v5=>
 ifB (beq v5 1) (
 okB (ifB (beq a1 0) false true)<|
 okB (ifB (beq a1 0) false true)<|
 force (land (shiftRight m (add a1 1792)) 18446744073709551615) fun v6=>
 force (land (shiftRight v4 64) 18446744073709551615) fun v7=>
 force (mod (add a2 (land (shiftRight m (add a1 512)) 18446744073709551615)) 18446744073709551616) fun v8=>
 sf270 v6 v7 v8 a2 m t s d fun r9 m10 t10 s10 d10=>
 k m10 t10 s10 d10)<|
 false
def e212 : FunE := ⟨[.ptr (lay 104) false false, .one (.int .u64), .agg (lay 227)], [], wrapF 3 0 sf212⟩
def i212 : FI := ⟨30, [5], [5, 7], [(270, e270)], []⟩
def a212 : An := (.sq .reg (.sq (.sq .reg (.cd (.sq (.drw [(0, 0), (1, 0), (2, 0), (3, 0), (4, 0), (5, 0), (6, 0), (7, 0), (8, 0), (9, 0), (10, 0), (11, 0), (12, 0), (13, 0), (14, 1)]) .ret) .dead)) .dead))
theorem q212 : AllN 3 fun l => ∀ m t s d k, R.denF i212 a212 (bodyOf Tryz.f212) Tryz.f212.results.toList e212.ps e212.rs l ⟨m, t, s, d⟩ k = wrapF 3 0 sf212 l ⟨m, t, s, d⟩ k := by
  intro x0 x1 x2 m t s d k
  kernel_rfl
theorem ok212 : FunOK Tryz.prog 212 e212 := fun_ok facts mixed (I := i212) (FnsOK.cons ok270 FnsOK.nil) Tryz.func212 (by kernel_rfl) (by kernel_rfl) (by kernel_rfl) (an := a212) (by kernel_rfl) (by kernel_rfl) q212
def sf213 : FT 4 0 := fun a1 a2 a3 a4 m t s d k=>
 force a3 fun v5=>
 ifB (ifB (beq a4 1) false true) (
 false)<|
 force (land (shiftRight v5 256) 340282366920938463463374607431768211455) fun v6=>
 force (xor 8 (shiftLeft (land (shiftRight v5 64) 18446744073709551615) 192)) fun v7=>
 sf105 a1 v6 v7 m t s d fun m8 t8 s8 d8=>
 join (fun (m9 t9 s9 d9 : Nat)=>
 okB (ifB (beq a1 0) false true)<|
 force (land (shiftRight m9 (add a1 1856)) 18446744073709551615) fun v11=>
 force (land (shiftRight v5 64) 18446744073709551615) fun v12=>
 sf124 v11 v12 a2 m9 t9 s9 d9 fun r13 m14 t14 s14 d14=>
 k m14 t14 s14 d14) fun J10=>
 ifB (ifB (beq (land (shiftRight v5 128) 18446744073709551615) 0) false true) (
 sf131 a1 a2 m8 t8 s8 d8 fun r15 m16 t16 s16 d16=>
 okB (beq (land (shiftRight v5 64) 18446744073709551615) (land (shiftRight v5 64) 18446744073709551615))<|
 okB (beq (land (shiftRight v5 64) 18446744073709551615) (land (shiftRight v5 64) 18446744073709551615))<|
 force (land (shiftRight v5 64) 18446744073709551615) fun v17=>
 force (xor (xor 16 (shiftLeft (land (shiftRight v5 64) 18446744073709551615) 192)) (shiftLeft r15 256)) fun v18=>
 sf130 a1 v17 v18 m16 t16 s16 d16 fun r19 m20 t20 s20 d20=>
 J10 m20 t20 s20 d20)<|
 J10 m8 t8 s8 d8
def e213 : FunE := ⟨[.ptr (lay 104) false false, .one (.int .u64), .agg (lay 227), .one .bool], [], wrapF 4 0 sf213⟩
def i213 : FI := ⟨38, [6], [6, 9, 19], [(105, e105), (124, e124), (130, e130), (131, e131)], []⟩
def a213 : An := (.sq .reg (.sq (.sq .reg (.cd .dead .skip)) (.sq .reg (.sj [] (.sq .reg (.cd (.drw [(0, 0), (1, 0), (2, 0), (3, 0), (4, 0), (5, 0), (6, 0), (7, 1), (8, 0), (9, 1)]) .skip)) (.drw [(0, 0), (1, 0), (2, 0), (3, 0), (4, 0), (5, 0), (6, 0), (7, 1)])))))
theorem q213 : AllN 4 fun l => ∀ m t s d k, R.denF i213 a213 (bodyOf Tryz.f213) Tryz.f213.results.toList e213.ps e213.rs l ⟨m, t, s, d⟩ k = wrapF 4 0 sf213 l ⟨m, t, s, d⟩ k := by
  intro x0 x1 x2 x3 m t s d k
  kernel_rfl
theorem ok213 : FunOK Tryz.prog 213 e213 := fun_ok facts mixed (I := i213) (FnsOK.cons ok105 (FnsOK.cons ok124 (FnsOK.cons ok130 (FnsOK.cons ok131 FnsOK.nil)))) Tryz.func213 (by kernel_rfl) (by kernel_rfl) (by kernel_rfl) (an := a213) (by kernel_rfl) (by kernel_rfl) q213
def sf143x0 : FT 4 0 := fun a1 a2 a3 a4 m t s d k=>
 force a3 fun v5=>
 force a4 fun v6=>
 okB (ifB (beq a1 0) false true)<|
 force (land (shiftRight v6 0) 18446744073709551615) fun v7=>
 ifB (beq v7 1) (
 force v5 fun v8=>
 force v6 fun v9=>
 force (ifB (beq (land (shiftRight v6 192) 18446744073709551615) (land (shiftRight m a1) 18446744073709551615)) 1 0) fun v10=>
 sf203 a1 v8 v9 v10 m t s d fun m11 t11 s11 d11=>
 k m11 t11 s11 d11)<|
 ifB (beq v7 2) (
 force v6 fun v12=>
 sf204 a1 v12 m t s d fun m13 t13 s13 d13=>
 k m13 t13 s13 d13)<|
 ifB (beq v7 3) (
 false)<|
 ifB (beq v7 4) (
 false)<|
 ifB (beq v7 5) (
 false)<|
 ifB (beq v7 6) (
 force v5 fun v14=>
 force v6 fun v15=>
 sf208 a1 v14 v15 m t s d fun m16 t16 s16 d16=>
 k m16 t16 s16 d16)<|
 ifB (beq v7 7) (
 force v6 fun v17=>
 sf209 a1 a2 v17 m t s d fun m18 t18 s18 d18=>
 k m18 t18 s18 d18)<|
 join (fun (p19 m20 t20 s20 d20 : Nat)=>
 ifB (beq p19 1) (
 force v5 fun v22=>
 force v6 fun v23=>
 force (ifB (beq (land (shiftRight v6 192) 18446744073709551615) (land (shiftRight m a1) 18446744073709551615)) 1 0) fun v24=>
 sf210 a1 a2 v22 v23 v24 m20 t20 s20 d20 fun m25 t25 s25 d25=>
 k m25 t25 s25 d25)<|
 join (fun (p26 m27 t27 s27 d27 : Nat)=>
 ifB (beq p26 1) (
 force v5 fun v29=>
 force v6 fun v30=>
 sf211 a1 a2 v29 v30 m27 t27 s27 d27 fun m31 t31 s31 d31=>
 k m31 t31 s31 d31)<|
 ifB (beq v7 11) (
 force v6 fun v32=>
 sf212 a1 a2 v32 m27 t27 s27 d27 fun m33 t33 s33 d33=>
 k m33 t33 s33 d33)<|
 ifB (beq v7 13) (
 okB (ifB (beq a1 0) false true)<|
 force (land (shiftRight m27 (add a1 960)) 18446744073709551615) fun v34=>
 sf17 v34 m27 t27 s27 d27 fun r35 m36 t36 s36 d36=>
 okB (beq v5 v5)<|
 force v5 fun v37=>
 force (xor (xor 15 (shiftLeft (ifB true 1 0) 448)) (shiftLeft r35 576)) fun v38=>
 sf105 a1 v37 v38 m36 t36 s36 d36 fun m39 t39 s39 d39=>
 k m39 t39 s39 d39)<|
 ifB (beq v7 16) (
 force v6 fun v40=>
 force (ifB (beq (land (shiftRight v6 192) 18446744073709551615) (land (shiftRight m a1) 18446744073709551615)) 1 0) fun v41=>
 sf213 a1 a2 v40 v41 m27 t27 s27 d27 fun m42 t42 s42 d42=>
 k m42 t42 s42 d42)<|
 k m27 t27 s27 d27) fun J28=>
 ifB (beq v7 10) (
 force (ifB (beq v7 10) 1 0) fun v43=>
 J28 v43 m20 t20 s20 d20)<|
 force (ifB (beq v7 12) 1 0) fun v44=>
 J28 v44 m20 t20 s20 d20) fun J21=>
 ifB (beq v7 8) (
 force (ifB (beq v7 8) 1 0) fun v45=>
 J21 v45 m t s d)<|
 force (ifB (beq v7 9) 1 0) fun v46=>
 J21 v46 m t s d
def e143x0 : FunE := ⟨[.ptr (lay 104) false false, .one (.int .u64), .agg (lay 44), .agg (lay 227)], [], wrapF 4 0 sf143x0⟩
def i143x0 : FI := ⟨113, [6, 7], [6, 7, 8, 18, 19, 26, 31, 37, 39, 52, 60, 66, 72, 81, 89, 95, 106], [(17, e17), (105, e105), (203, e203), (204, e204), (207, ⟨[.ptr (lay 104) false false, .one (.int .u64), .agg (lay 44), .agg (lay 227), .one .bool], [], fun _ _ _ => false⟩), (208, e208), (209, e209), (210, e210), (211, e211), (212, e212), (213, e213)], []⟩
def a143x0 : An := (.sq .reg (.sq (.drw [(0, 0), (1, 0), (2, 0), (3, 0), (4, 0), (5, 0), (6, 0), (7, 0), (8, 0)]) (.sq .reg (.bl (.sq .reg (.cd .reg (.sq .reg (.cd .reg (.sq .reg (.cd .dead (.sq .reg (.cd .dead (.sq .reg (.cd .reg (.sq .reg (.cd .reg (.sq .reg (.cd .reg (.sj [(72, .sh (.one .bool))] (.sq .reg (.cd .skip .reg)) (.cd .reg (.sj [(81, .sh (.one .bool))] (.sq .reg (.cd .skip .reg)) (.cd .reg (.sq .reg (.cd .reg (.sq .reg (.cd (.drw [(0, 0), (1, 0), (2, 0), (3, 0), (4, 0), (5, 0), (6, 1), (7, 0), (8, 1)]) (.sq .reg (.cd .reg .skip))))))))))))))))))))))))))))
theorem q143x0 : AllN 4 fun l => ∀ m t s d k, R.denF i143x0 a143x0 (bodyOf Tryz.f143) Tryz.f143.results.toList e143x0.ps e143x0.rs l ⟨m, t, s, d⟩ k = wrapF 4 0 sf143x0 l ⟨m, t, s, d⟩ k := by
  intro x0 x1 x2 x3 m t s d k
  kernel_rfl
theorem ok143x0 : FunOK Tryz.prog 143 e143x0 := fun_ok facts mixed (I := i143x0) (FnsOK.cons ok17 (FnsOK.cons ok105 (FnsOK.cons ok203 (FnsOK.cons ok204 (FnsOK.cons FunOK.dead (FnsOK.cons ok208 (FnsOK.cons ok209 (FnsOK.cons ok210 (FnsOK.cons ok211 (FnsOK.cons ok212 (FnsOK.cons ok213 FnsOK.nil))))))))))) Tryz.func143 (by kernel_rfl) (by kernel_rfl) (by kernel_rfl) (an := a143x0) (by kernel_rfl) (by kernel_rfl) q143x0
def sf99x0 : FT 5 0 := fun a1 a2 a3 a4 a5 m t s d k=>
 force a3 fun v6=>
 join (loopN 4 (fun (_ _ _ _ : Nat) => false) (fun L8 (m7 t7 s7 d7 : Nat)=>
 okB (ifB (beq a1 0) false true)<|
 okB (ifB (beq a1 0) false true)<|
 force (xor (land (shiftRight m7 (add a1 2176)) 18446744073709551615) (mod (add (land (shiftRight m7 (add a1 2176)) 18446744073709551615) 1) 18446744073709551616)) fun v10=>
 force (xor m7 (xor (shiftLeft v10 (add a1 2176)) (mod (add v10 (add a1 2176)) 2305843009213693951))) fun m11=>
 k m11 t7 s7 d7)) fun J9=>
 sf141 a4 m t s d fun r12 r13 m14 t14 s14 d14=>
 force r12 fun v15=>
 okB (ifB (ifB (ifB (beq r13 0) false true) false true) (ifB (beq a1 0) false true) true)<|
 okB (ifB (ifB (beq r13 0) false true) true (ifB (ifB (beq r13 0) false true) false true))<|
 okB (ifB (ifB (ifB (ifB (beq r13 0) false true) true (beq (land (shiftRight v15 64) 18446744073709551615) (land (shiftRight m14 a1) 18446744073709551615))) false true) (ifB (beq a5 1) (ifB (ifB (ifB (ifB (beq r13 0) false true) true (beq (land (shiftRight v15 64) 18446744073709551615) (land (shiftRight m14 a1) 18446744073709551615))) false true) (beq a5 1) false) true) true)<|
 okB (ifB (ifB (ifB (beq r13 0) false true) true (beq (land (shiftRight v15 64) 18446744073709551615) (land (shiftRight m14 a1) 18446744073709551615))) true (ifB (ifB (ifB (beq r13 0) false true) true (beq (land (shiftRight v15 64) 18446744073709551615) (land (shiftRight m14 a1) 18446744073709551615))) false true))<|
 ifB (ifB (ifB (ifB (beq r13 0) false true) true (beq (land (shiftRight v15 64) 18446744073709551615) (land (shiftRight m14 a1) 18446744073709551615))) true (ifB (beq a5 1) (beq (land (shiftRight v15 0) 18446744073709551615) 5) false)) (
 J9 m14 t14 s14 d14)<|
 okB (ifB (beq a1 0) false true)<|
 force (land (shiftRight m14 (add a1 2112)) 18446744073709551615) fun v16=>
 ifB (beq v16 1) (
 k m14 t14 s14 d14)<|
 okB (ifB (beq a1 0) false true)<|
 force (land (shiftRight m14 (add a1 1856)) 18446744073709551615) fun v17=>
 force (land (shiftRight v15 64) 18446744073709551615) fun v18=>
 force v6 fun v19=>
 sf142 v17 v18 v19 a2 m14 t14 s14 d14 fun r20 m21 t21 s21 d21=>
 join (fun (p22 p23 m24 t24 s24 d24 : Nat)=>
 force p22 fun v26=>
 force p23 fun v27=>
 sf143x0 a1 a2 v26 v27 m24 t24 s24 d24 fun m28 t28 s28 d28=>
 k m28 t28 s28 d28) fun J25=>
 force (land (shiftRight v15 576) 18446744073709551615) fun v29=>
 force (land (shiftRight v29 28) 131071) fun v30=>
 loopN 6 (fun (_ _ _ _ _ _ _ : Nat) => false) (fun L35 (p31 p32 p33 m34 t34 s34 d34 : Nat)=>
 ifB (ble (succ (xor p33 9223372036854775808)) (xor v30 9223372036854775808)) (
 okB (ble (succ p33) (land (shiftRight v29 28) 131071))<|
 okB (beq (land (shiftRight d34 (shiftRight (add (land v29 268435455) (mul p33 320)) 6)) 31) 0)<|
 force (land (shiftRight m34 (add (land v29 268435455) (mul p33 320))) (mask 5)) fun v36=>
 force v36 fun v37=>
 force (land (shiftRight p32 64) 18446744073709551615) fun v38=>
 sf115 a1 a2 v37 v38 m34 t34 s34 d34 fun m39 t39 s39 d39=>
 force (mod (add p33 1) 18446744073709551616) fun v40=>
 L35 p31 p32 v40 m39 t39 s39 d39)<|
 J25 p31 p32 m34 t34 s34 d34) v6 v15 0 m21 t21 s21 d21
def e99x0 : FunE := ⟨[.ptr (lay 104) false false, .one (.int .u64), .agg (lay 44), .one .str, .one .bool], [], wrapF 5 0 sf99x0⟩
def i99x0 : FI := ⟨78, [7, 10, 13], [7, 10, 11, 13, 14, 21, 31, 33, 38, 42, 53, 54, 55, 56, 71], [(115, e115), (141, e141), (142, e142), (143, e143x0)], []⟩
def a99x0 : An := (.sq .reg (.sc (.lb 0 [] 4 (.sq .skip .reg) (.sq .reg (.sq (.sq (.drw [(0, 0), (1, 0), (2, 0), (3, 0), (4, 0), (5, 0), (6, 0), (7, 0), (8, 0), (9, 0), (10, 0), (11, 0), (12, 0), (13, 0), (14, 0), (15, 0), (16, 0), (17, 0), (18, 0), (19, 0)]) (.cd .go .skip)) (.sq (.sq .reg (.cd .ret .skip)) (.sq (.drw [(0, 0), (1, 0), (2, 0), (3, 0), (4, 0), (5, 0), (6, 0), (7, 0), (8, 1)]) (.sj [(7, .loc (lay 44)), (10, .loc (lay 227))] (.sq .reg (.bl (.lp [(7, .loc (lay 44)), (10, .loc (lay 227)), (55, .sh (.one (.int .i64)))] 6 (.sq .reg (.sq (.cd .skip .ex) (.sq (.bl (.sq .reg .reg)) .reg)))))) (.sq .reg (.sq .ret .dead))))))))))
theorem q99x0 : AllN 5 fun l => ∀ m t s d k, R.denF i99x0 a99x0 (bodyOf Tryz.f99) Tryz.f99.results.toList e99x0.ps e99x0.rs l ⟨m, t, s, d⟩ k = wrapF 5 0 sf99x0 l ⟨m, t, s, d⟩ k := by
  intro x0 x1 x2 x3 x4 m t s d k
  kernel_rfl
theorem ok99x0 : FunOK Tryz.prog 99 e99x0 := fun_ok facts mixed (I := i99x0) (FnsOK.cons ok115 (FnsOK.cons ok141 (FnsOK.cons ok142 (FnsOK.cons ok143x0 FnsOK.nil)))) Tryz.func99 (by kernel_rfl) (by kernel_rfl) (by kernel_rfl) (an := a99x0) (by kernel_rfl) (by kernel_rfl) q99x0
def sf207 : FT 5 0 := fun a1 a2 a3 a4 a5 m t s d k=>
 force a3 fun v6=>
 force a4 fun v7=>
 ifB (beq a5 1) (
 force v6 fun v8=>
 force (land (shiftRight v7 512) 18446744073709551615) fun v9=>
 force (ifB true 1 0) fun v10=>
 sf99x0 a1 a2 v8 v9 v10 m t s d fun m11 t11 s11 d11=>
 k m11 t11 s11 d11)<|
 false
def e207 : FunE := ⟨[.ptr (lay 104) false false, .one (.int .u64), .agg (lay 44), .agg (lay 227), .one .bool], [], wrapF 5 0 sf207⟩
def i207 : FI := ⟨44, [7, 8, 10, 40], [7, 8, 10, 11, 12, 19, 30], [(99, e99x0)], []⟩
def a207 : An := (.sq .reg (.sq (.sq .reg (.cd (.sq .reg .ret) .dead)) .dead))
theorem q207 : AllN 5 fun l => ∀ m t s d k, R.denF i207 a207 (bodyOf Tryz.f207) Tryz.f207.results.toList e207.ps e207.rs l ⟨m, t, s, d⟩ k = wrapF 5 0 sf207 l ⟨m, t, s, d⟩ k := by
  intro x0 x1 x2 x3 x4 m t s d k
  kernel_rfl
theorem ok207 : FunOK Tryz.prog 207 e207 := fun_ok facts mixed (I := i207) (FnsOK.cons ok99x0 FnsOK.nil) Tryz.func207 (by kernel_rfl) (by kernel_rfl) (by kernel_rfl) (an := a207) (by kernel_rfl) (by kernel_rfl) q207
def sf143 : FT 4 0 := fun a1 a2 a3 a4 m t s d k=>
 force a3 fun v5=>
 force a4 fun v6=>
 okB (ifB (beq a1 0) false true)<|
 force (land (shiftRight v6 0) 18446744073709551615) fun v7=>
 ifB (beq v7 1) (
 force v5 fun v8=>
 force v6 fun v9=>
 force (ifB (beq (land (shiftRight v6 192) 18446744073709551615) (land (shiftRight m a1) 18446744073709551615)) 1 0) fun v10=>
 sf203 a1 v8 v9 v10 m t s d fun m11 t11 s11 d11=>
 k m11 t11 s11 d11)<|
 ifB (beq v7 2) (
 force v6 fun v12=>
 sf204 a1 v12 m t s d fun m13 t13 s13 d13=>
 k m13 t13 s13 d13)<|
 ifB (beq v7 3) (
 false)<|
 ifB (beq v7 4) (
 false)<|
 ifB (beq v7 5) (
 force v5 fun v14=>
 force v6 fun v15=>
 force (ifB (beq (land (shiftRight v6 192) 18446744073709551615) (land (shiftRight m a1) 18446744073709551615)) 1 0) fun v16=>
 sf207 a1 a2 v14 v15 v16 m t s d fun m17 t17 s17 d17=>
 k m17 t17 s17 d17)<|
 ifB (beq v7 6) (
 force v5 fun v18=>
 force v6 fun v19=>
 sf208 a1 v18 v19 m t s d fun m20 t20 s20 d20=>
 k m20 t20 s20 d20)<|
 ifB (beq v7 7) (
 force v6 fun v21=>
 sf209 a1 a2 v21 m t s d fun m22 t22 s22 d22=>
 k m22 t22 s22 d22)<|
 join (fun (p23 m24 t24 s24 d24 : Nat)=>
 ifB (beq p23 1) (
 force v5 fun v26=>
 force v6 fun v27=>
 force (ifB (beq (land (shiftRight v6 192) 18446744073709551615) (land (shiftRight m a1) 18446744073709551615)) 1 0) fun v28=>
 sf210 a1 a2 v26 v27 v28 m24 t24 s24 d24 fun m29 t29 s29 d29=>
 k m29 t29 s29 d29)<|
 join (fun (p30 m31 t31 s31 d31 : Nat)=>
 ifB (beq p30 1) (
 force v5 fun v33=>
 force v6 fun v34=>
 sf211 a1 a2 v33 v34 m31 t31 s31 d31 fun m35 t35 s35 d35=>
 k m35 t35 s35 d35)<|
 ifB (beq v7 11) (
 force v6 fun v36=>
 sf212 a1 a2 v36 m31 t31 s31 d31 fun m37 t37 s37 d37=>
 k m37 t37 s37 d37)<|
 ifB (beq v7 13) (
 okB (ifB (beq a1 0) false true)<|
 force (land (shiftRight m31 (add a1 960)) 18446744073709551615) fun v38=>
 sf17 v38 m31 t31 s31 d31 fun r39 m40 t40 s40 d40=>
 okB (beq v5 v5)<|
 force v5 fun v41=>
 force (xor (xor 15 (shiftLeft (ifB true 1 0) 448)) (shiftLeft r39 576)) fun v42=>
 sf105 a1 v41 v42 m40 t40 s40 d40 fun m43 t43 s43 d43=>
 k m43 t43 s43 d43)<|
 ifB (beq v7 16) (
 force v6 fun v44=>
 force (ifB (beq (land (shiftRight v6 192) 18446744073709551615) (land (shiftRight m a1) 18446744073709551615)) 1 0) fun v45=>
 sf213 a1 a2 v44 v45 m31 t31 s31 d31 fun m46 t46 s46 d46=>
 k m46 t46 s46 d46)<|
 k m31 t31 s31 d31) fun J32=>
 ifB (beq v7 10) (
 force (ifB (beq v7 10) 1 0) fun v47=>
 J32 v47 m24 t24 s24 d24)<|
 force (ifB (beq v7 12) 1 0) fun v48=>
 J32 v48 m24 t24 s24 d24) fun J25=>
 ifB (beq v7 8) (
 force (ifB (beq v7 8) 1 0) fun v49=>
 J25 v49 m t s d)<|
 force (ifB (beq v7 9) 1 0) fun v50=>
 J25 v50 m t s d
def e143 : FunE := ⟨[.ptr (lay 104) false false, .one (.int .u64), .agg (lay 44), .agg (lay 227)], [], wrapF 4 0 sf143⟩
def i143 : FI := ⟨113, [6, 7], [6, 7, 8, 18, 19, 26, 31, 37, 39, 52, 60, 66, 72, 81, 89, 95, 106], [(17, e17), (105, e105), (203, e203), (204, e204), (207, e207), (208, e208), (209, e209), (210, e210), (211, e211), (212, e212), (213, e213)], []⟩
def a143 : An := (.sq .reg (.sq (.drw [(0, 0), (1, 0), (2, 0), (3, 0), (4, 0), (5, 0), (6, 0), (7, 0), (8, 0)]) (.sq .reg (.bl (.sq .reg (.cd .reg (.sq .reg (.cd .reg (.sq .reg (.cd .dead (.sq .reg (.cd .dead (.sq .reg (.cd .reg (.sq .reg (.cd .reg (.sq .reg (.cd .reg (.sj [(72, .sh (.one .bool))] (.sq .reg (.cd .skip .reg)) (.cd .reg (.sj [(81, .sh (.one .bool))] (.sq .reg (.cd .skip .reg)) (.cd .reg (.sq .reg (.cd .reg (.sq .reg (.cd (.drw [(0, 0), (1, 0), (2, 0), (3, 0), (4, 0), (5, 0), (6, 1), (7, 0), (8, 1)]) (.sq .reg (.cd .reg .skip))))))))))))))))))))))))))))
theorem q143 : AllN 4 fun l => ∀ m t s d k, R.denF i143 a143 (bodyOf Tryz.f143) Tryz.f143.results.toList e143.ps e143.rs l ⟨m, t, s, d⟩ k = wrapF 4 0 sf143 l ⟨m, t, s, d⟩ k := by
  intro x0 x1 x2 x3 m t s d k
  kernel_rfl
theorem ok143 : FunOK Tryz.prog 143 e143 := fun_ok facts mixed (I := i143) (FnsOK.cons ok17 (FnsOK.cons ok105 (FnsOK.cons ok203 (FnsOK.cons ok204 (FnsOK.cons ok207 (FnsOK.cons ok208 (FnsOK.cons ok209 (FnsOK.cons ok210 (FnsOK.cons ok211 (FnsOK.cons ok212 (FnsOK.cons ok213 FnsOK.nil))))))))))) Tryz.func143 (by kernel_rfl) (by kernel_rfl) (by kernel_rfl) (an := a143) (by kernel_rfl) (by kernel_rfl) q143
def sf99 : FT 5 0 := fun a1 a2 a3 a4 a5 m t s d k=>
 force a3 fun v6=>
 join (loopN 4 (fun (_ _ _ _ : Nat) => false) (fun L8 (m7 t7 s7 d7 : Nat)=>
 okB (ifB (beq a1 0) false true)<|
 okB (ifB (beq a1 0) false true)<|
 force (xor (land (shiftRight m7 (add a1 2176)) 18446744073709551615) (mod (add (land (shiftRight m7 (add a1 2176)) 18446744073709551615) 1) 18446744073709551616)) fun v10=>
 force (xor m7 (xor (shiftLeft v10 (add a1 2176)) (mod (add v10 (add a1 2176)) 2305843009213693951))) fun m11=>
 k m11 t7 s7 d7)) fun J9=>
 sf141 a4 m t s d fun r12 r13 m14 t14 s14 d14=>
 force r12 fun v15=>
 okB (ifB (ifB (ifB (beq r13 0) false true) false true) (ifB (beq a1 0) false true) true)<|
 okB (ifB (ifB (beq r13 0) false true) true (ifB (ifB (beq r13 0) false true) false true))<|
 okB (ifB (ifB (ifB (ifB (beq r13 0) false true) true (beq (land (shiftRight v15 64) 18446744073709551615) (land (shiftRight m14 a1) 18446744073709551615))) false true) (ifB (beq a5 1) (ifB (ifB (ifB (ifB (beq r13 0) false true) true (beq (land (shiftRight v15 64) 18446744073709551615) (land (shiftRight m14 a1) 18446744073709551615))) false true) (beq a5 1) false) true) true)<|
 okB (ifB (ifB (ifB (beq r13 0) false true) true (beq (land (shiftRight v15 64) 18446744073709551615) (land (shiftRight m14 a1) 18446744073709551615))) true (ifB (ifB (ifB (beq r13 0) false true) true (beq (land (shiftRight v15 64) 18446744073709551615) (land (shiftRight m14 a1) 18446744073709551615))) false true))<|
 ifB (ifB (ifB (ifB (beq r13 0) false true) true (beq (land (shiftRight v15 64) 18446744073709551615) (land (shiftRight m14 a1) 18446744073709551615))) true (ifB (beq a5 1) (beq (land (shiftRight v15 0) 18446744073709551615) 5) false)) (
 J9 m14 t14 s14 d14)<|
 okB (ifB (beq a1 0) false true)<|
 force (land (shiftRight m14 (add a1 2112)) 18446744073709551615) fun v16=>
 ifB (beq v16 1) (
 k m14 t14 s14 d14)<|
 okB (ifB (beq a1 0) false true)<|
 force (land (shiftRight m14 (add a1 1856)) 18446744073709551615) fun v17=>
 force (land (shiftRight v15 64) 18446744073709551615) fun v18=>
 force v6 fun v19=>
 sf142 v17 v18 v19 a2 m14 t14 s14 d14 fun r20 m21 t21 s21 d21=>
 join (fun (p22 p23 m24 t24 s24 d24 : Nat)=>
 force p22 fun v26=>
 force p23 fun v27=>
 sf143 a1 a2 v26 v27 m24 t24 s24 d24 fun m28 t28 s28 d28=>
 k m28 t28 s28 d28) fun J25=>
 force (land (shiftRight v15 576) 18446744073709551615) fun v29=>
 force (land (shiftRight v29 28) 131071) fun v30=>
 loopN 6 (fun (_ _ _ _ _ _ _ : Nat) => false) (fun L35 (p31 p32 p33 m34 t34 s34 d34 : Nat)=>
 ifB (ble (succ (xor p33 9223372036854775808)) (xor v30 9223372036854775808)) (
 okB (ble (succ p33) (land (shiftRight v29 28) 131071))<|
 okB (beq (land (shiftRight d34 (shiftRight (add (land v29 268435455) (mul p33 320)) 6)) 31) 0)<|
 force (land (shiftRight m34 (add (land v29 268435455) (mul p33 320))) (mask 5)) fun v36=>
 force v36 fun v37=>
 force (land (shiftRight p32 64) 18446744073709551615) fun v38=>
 sf115 a1 a2 v37 v38 m34 t34 s34 d34 fun m39 t39 s39 d39=>
 force (mod (add p33 1) 18446744073709551616) fun v40=>
 L35 p31 p32 v40 m39 t39 s39 d39)<|
 J25 p31 p32 m34 t34 s34 d34) v6 v15 0 m21 t21 s21 d21
def e99 : FunE := ⟨[.ptr (lay 104) false false, .one (.int .u64), .agg (lay 44), .one .str, .one .bool], [], wrapF 5 0 sf99⟩
def i99 : FI := ⟨78, [7, 10, 13], [7, 10, 11, 13, 14, 21, 31, 33, 38, 42, 53, 54, 55, 56, 71], [(115, e115), (141, e141), (142, e142), (143, e143)], []⟩
def a99 : An := (.sq .reg (.sc (.lb 0 [] 4 (.sq .skip .reg) (.sq .reg (.sq (.sq (.drw [(0, 0), (1, 0), (2, 0), (3, 0), (4, 0), (5, 0), (6, 0), (7, 0), (8, 0), (9, 0), (10, 0), (11, 0), (12, 0), (13, 0), (14, 0), (15, 0), (16, 0), (17, 0), (18, 0), (19, 0)]) (.cd .go .skip)) (.sq (.sq .reg (.cd .ret .skip)) (.sq (.drw [(0, 0), (1, 0), (2, 0), (3, 0), (4, 0), (5, 0), (6, 0), (7, 0), (8, 1)]) (.sj [(7, .loc (lay 44)), (10, .loc (lay 227))] (.sq .reg (.bl (.lp [(7, .loc (lay 44)), (10, .loc (lay 227)), (55, .sh (.one (.int .i64)))] 6 (.sq .reg (.sq (.cd .skip .ex) (.sq (.bl (.sq .reg .reg)) .reg)))))) (.sq .reg (.sq .ret .dead))))))))))
theorem q99 : AllN 5 fun l => ∀ m t s d k, R.denF i99 a99 (bodyOf Tryz.f99) Tryz.f99.results.toList e99.ps e99.rs l ⟨m, t, s, d⟩ k = wrapF 5 0 sf99 l ⟨m, t, s, d⟩ k := by
  intro x0 x1 x2 x3 x4 m t s d k
  kernel_rfl
theorem ok99 : FunOK Tryz.prog 99 e99 := fun_ok facts mixed (I := i99) (FnsOK.cons ok115 (FnsOK.cons ok141 (FnsOK.cons ok142 (FnsOK.cons ok143 FnsOK.nil)))) Tryz.func99 (by kernel_rfl) (by kernel_rfl) (by kernel_rfl) (an := a99) (by kernel_rfl) (by kernel_rfl) q99
def sf65 : FT 4 1 := fun a1 a2 a3 a4 m t s d k=>
 force a3 fun v5=>
 ifB (ble 4611686018427387905 a2) (
 false)<|
 okB (ifB (beq a1 0) false true)<|
 force (xor (land (shiftRight m (add a1 2304)) 18446744073709551615) a2) fun v6=>
 force (xor m (xor (shiftLeft v6 (add a1 2304)) (mod (add v6 (add a1 2304)) 2305843009213693951))) fun m7=>
 force v5 fun v8=>
 force (ifB false 1 0) fun v9=>
 sf99 a1 a2 v8 a4 v9 m7 t s d fun m10 t10 s10 d10=>
 sf96 a1 m10 t10 s10 d10 fun r11 m12 t12 s12 d12=>
 k r11 m12 t12 s12 d12
def e65 : FunE := ⟨[.ptr (lay 104) false false, .one (.int .u64), .agg (lay 44), .one .str], [.sli (lay 210)], wrapF 4 1 sf65⟩
def i65 : FI := ⟨22, [6], [6, 8, 10], [(96, e96), (99, e99)], []⟩
def a65 : An := (.sq .reg (.sq (.sq .reg (.cd .dead .skip)) (.sq .reg (.sq .reg (.sq .reg .ret)))))
theorem q65 : AllN 4 fun l => ∀ m t s d k, R.denF i65 a65 (bodyOf Tryz.f65) Tryz.f65.results.toList e65.ps e65.rs l ⟨m, t, s, d⟩ k = wrapF 4 1 sf65 l ⟨m, t, s, d⟩ k := by
  intro x0 x1 x2 x3 m t s d k
  kernel_rfl
theorem ok65 : FunOK Tryz.prog 65 e65 := fun_ok facts mixed (I := i65) (FnsOK.cons ok96 (FnsOK.cons ok99 FnsOK.nil)) Tryz.func65 (by kernel_rfl) (by kernel_rfl) (by kernel_rfl) (an := a65) (by kernel_rfl) (by kernel_rfl) q65
def sf25 : FT 2 1 := fun a1 a2 m t s d k=>
 force a2 fun v3=>
 okB (ifB (beq a1 0) false true)<|
 okB (ifB (beq a1 0) false true)<|
 force (land (shiftRight m (add a1 704)) 18446744073709551615) fun v4=>
 force (land (shiftRight m (add a1 512)) 18446744073709551615) fun v5=>
 force (land (shiftRight v3 128) 18446744073709551615) fun v6=>
 sf63 v4 v5 v6 m t s d fun r7 r8 m9 t9 s9 d9=>
 okB (beq (land (shiftRight v3 128) 18446744073709551615) (land (shiftRight v3 128) 18446744073709551615))<|
 okB (beq (land (shiftRight m9 (add a1 512)) 18446744073709551615) (land (shiftRight m (add a1 512)) 18446744073709551615))<|
 okB (beq (land (shiftRight m9 (add a1 704)) 18446744073709551615) (land (shiftRight m (add a1 704)) 18446744073709551615))<|
 force r7 fun v10=>
 join (fun (m11 t11 s11 d11 : Nat)=>
 k r8 m11 t11 s11 d11) fun J12=>
 join (fun (r13 m14 t14 s14 d14 : Nat)=>
 okB (ifB (beq r8 0) (beq r8 0) true)<|
 ifB (ifB (beq r8 0) (beq r13 1) false) (
 okB (ifB (beq a1 0) false true)<|
 force (land (shiftRight v10 0) 18446744073709551615) fun v16=>
 sf12 a1 v16 m14 t14 s14 d14 fun r17 m18 t18 s18 d18=>
 okB (beq (land (shiftRight v10 192) 18446744073709551615) (land (shiftRight v10 192) 18446744073709551615))<|
 okB (beq (land (shiftRight v10 64) 340282366920938463463374607431768211455) (land (shiftRight v10 64) 340282366920938463463374607431768211455))<|
 okB (beq (land (shiftRight m18 (add a1 512)) 18446744073709551615) (land (shiftRight m14 (add a1 512)) 18446744073709551615))<|
 okB (beq (land (shiftRight v10 0) 18446744073709551615) (land (shiftRight v10 0) 18446744073709551615))<|
 force (land (shiftRight m14 (add a1 512)) 18446744073709551615) fun v19=>
 force (land (shiftRight v10 64) 340282366920938463463374607431768211455) fun v20=>
 force (land (shiftRight v10 192) 18446744073709551615) fun v21=>
 sf65 r17 v19 v20 v21 m18 t18 s18 d18 fun r22 m23 t23 s23 d23=>
 okB (beq (land (shiftRight v10 0) 18446744073709551615) (land (shiftRight v10 0) 18446744073709551615))<|
 force (land (shiftRight v10 0) 18446744073709551615) fun v24=>
 sf61 a1 v24 r22 m23 t23 s23 d23 fun m25 t25 s25 d25=>
 J12 m25 t25 s25 d25)<|
 J12 m14 t14 s14 d14) fun J15=>
 ifB (beq r8 0) (
 force (land (shiftRight v10 0) 18446744073709551615) fun v26=>
 sf64 a1 v26 m9 t9 s9 d9 fun r27 m28 t28 s28 d28=>
 J15 r27 m28 t28 s28 d28)<|
 J15 0 m9 t9 s9 d9
def e25 : FunE := ⟨[.ptr (lay 65) false false, .agg (lay 46)], [.one (.int .i64)], wrapF 2 1 sf25⟩
def i25 : FI := ⟨47, [3, 5], [3, 4, 5, 6, 7, 23, 28], [(12, e12), (61, e61), (63, e63), (64, e64), (65, e65)], []⟩
def a25 : An := (.sq .reg (.sq (.drw [(0, 0), (1, 0), (2, 0), (3, 0), (4, 0), (5, 0), (6, 0), (7, 0), (8, 0), (9, 0), (10, 1), (11, 0), (12, 0), (13, 0), (14, 2), (15, 1), (16, 0)]) (.sj [] (.sq .reg (.cd (.drw [(0, 0), (1, 0), (2, 0), (3, 0), (4, 0), (5, 0), (7, 0), (8, 0), (9, 0), (10, 0), (11, 0), (12, 0), (13, 0), (14, 0), (6, 1), (15, 1), (16, 1)]) .skip)) (.sq .reg .ret))))
theorem q25 : AllN 2 fun l => ∀ m t s d k, R.denF i25 a25 (bodyOf Tryz.f25) Tryz.f25.results.toList e25.ps e25.rs l ⟨m, t, s, d⟩ k = wrapF 2 1 sf25 l ⟨m, t, s, d⟩ k := by
  intro x0 x1 m t s d k
  kernel_rfl
theorem ok25 : FunOK Tryz.prog 25 e25 := fun_ok facts mixed (I := i25) (FnsOK.cons ok12 (FnsOK.cons ok61 (FnsOK.cons ok63 (FnsOK.cons ok64 (FnsOK.cons ok65 FnsOK.nil))))) Tryz.func25 (by kernel_rfl) (by kernel_rfl) (by kernel_rfl) (an := a25) (by kernel_rfl) (by kernel_rfl) q25
def sf29 : FT 2 1 := fun a1 a2 m t s d k=>
 force a2 fun v3=>
 force (land (shiftRight v3 64) 18446744073709551615) fun v4=>
 sf39 a1 v4 m t s d fun r5 m6 t6 s6 d6=>
 force (land (shiftRight v3 64) 18446744073709551615) fun v7=>
 sf64 a1 v7 m6 t6 s6 d6 fun r8 m9 t9 s9 d9=>
 ifB (ifB (beq r8 1) false true) (
 false)<|
 okB (ifB (beq r5 0) false true)<|
 okB (beq (land (shiftRight d9 (shiftRight (add r5 64) 6)) 1) 0)<|
 force (xor (land (shiftRight m9 (add r5 64)) 18446744073709551615) (ifB false 1 0)) fun v10=>
 force (xor m9 (xor (shiftLeft v10 (add r5 64)) (mod (add v10 (add r5 64)) 2305843009213693951))) fun m11=>
 k 0 m11 t9 s9 d9
def e29 : FunE := ⟨[.ptr (lay 65) false false, .agg (lay 46)], [.one (.int .i64)], wrapF 2 1 sf29⟩
def i29 : FI := ⟨18, [3], [3, 4, 5, 14], [(39, e39), (64, e64)], []⟩
def a29 : An := (.sq .reg (.sq .reg (.sq (.sq .reg (.cd .dead .skip)) (.sq .reg (.sq .reg .ret)))))
theorem q29 : AllN 2 fun l => ∀ m t s d k, R.denF i29 a29 (bodyOf Tryz.f29) Tryz.f29.results.toList e29.ps e29.rs l ⟨m, t, s, d⟩ k = wrapF 2 1 sf29 l ⟨m, t, s, d⟩ k := by
  intro x0 x1 m t s d k
  kernel_rfl
theorem ok29 : FunOK Tryz.prog 29 e29 := fun_ok facts mixed (I := i29) (FnsOK.cons ok39 (FnsOK.cons ok64 FnsOK.nil)) Tryz.func29 (by kernel_rfl) (by kernel_rfl) (by kernel_rfl) (an := a29) (by kernel_rfl) (by kernel_rfl) q29
def sf30 : FT 2 1 := fun a1 a2 m t s d k=>
 force a2 fun v3=>
 force (land (shiftRight v3 64) 18446744073709551615) fun v4=>
 sf39 a1 v4 m t s d fun r5 m6 t6 s6 d6=>
 ifB (beq r5 0) (
 false)<|
 okB (ifB (beq r5 0) false true)<|
 okB (beq (land (shiftRight d6 (shiftRight (add r5 128) 6)) 1) 0)<|
 okB (ifB (beq r5 0) false true)<|
 okB (beq (land (shiftRight d6 (shiftRight (add r5 128) 6)) 1) 0)<|
 okB (ble (succ (mod (sub (add (land (shiftRight (land (shiftRight m6 (add r5 128)) 18446744073709551615) 28) 131071) 18446744073709551616) 1) 18446744073709551616)) (land (shiftRight (land (shiftRight m6 (add r5 128)) 18446744073709551615) 28) 131071))<|
 okB (beq (land (shiftRight d6 (shiftRight (add (add (land (land (shiftRight m6 (add r5 128)) 18446744073709551615) 268435455) (mul (mod (sub (add (land (shiftRight (land (shiftRight m6 (add r5 128)) 18446744073709551615) 28) 131071) 18446744073709551616) 1) 18446744073709551616) 320)) 128) 6)) 1) 0)<|
 force (land (shiftRight m6 (add (add (land (land (shiftRight m6 (add r5 128)) 18446744073709551615) 268435455) (mul (mod (sub (add (land (shiftRight (land (shiftRight m6 (add r5 128)) 18446744073709551615) 28) 131071) 18446744073709551616) 1) 18446744073709551616) 320)) 128)) 18446744073709551615) fun v7=>
 okB (ifB (beq r5 0) false true)<|
 okB (beq (land (shiftRight d6 (shiftRight (add r5 64) 6)) 1) 0)<|
 force (land (shiftRight m6 (add r5 64)) 18446744073709551615) fun v8=>
 ifB (beq v8 1) (
 false)<|
 ifB (beq v7 4294967295) (
 false)<|
 okB (ifB (beq a1 0) false true)<|
 force (land (shiftRight m6 a1) (mask 8)) fun v9=>
 force (land (shiftRight v3 64) 18446744073709551615) fun v10=>
 force (mod (add v7 1) 4294967296) fun v11=>
 sf21 v9 v10 v11 m6 t6 s6 d6 fun r12 m13 t13 s13 d13=>
 sf20 r12 m13 t13 s13 d13 fun r14 r15 m16 t16 s16 d16=>
 okB (ifB (beq r5 0) false true)<|
 okB (beq (land (shiftRight d16 (shiftRight r5 6)) 1) 0)<|
 force (xor (land (shiftRight m16 r5) 18446744073709551615) r14) fun v17=>
 force (xor m16 (xor (shiftLeft v17 r5) (mod (add v17 r5) 2305843009213693951))) fun m18=>
 okB (ifB (beq r5 0) false true)<|
 okB (beq (land (shiftRight d16 (shiftRight (add r5 64) 6)) 1) 0)<|
 force (xor (land (shiftRight m18 (add r5 64)) 18446744073709551615) (ifB true 1 0)) fun v19=>
 force (xor m18 (xor (shiftLeft v19 (add r5 64)) (mod (add v19 (add r5 64)) 2305843009213693951))) fun m20=>
 force (land (shiftRight v3 64) 18446744073709551615) fun v21=>
 sf61 a1 v21 0 m20 t16 s16 d16 fun m22 t22 s22 d22=>
 k 0 m22 t22 s22 d22
def e30 : FunE := ⟨[.ptr (lay 65) false false, .agg (lay 46)], [.one (.int .i64)], wrapF 2 1 sf30⟩
def i30 : FI := ⟨57, [3], [3, 4, 5, 6, 12, 26, 31, 34], [(20, e20), (21, e21), (39, e39), (61, e61)], []⟩
def a30 : An := (.sq .reg (.sq .reg (.sq (.sq .reg (.cd .dead .skip)) (.sq (.drw [(0, 0), (1, 0), (2, 0), (3, 0), (4, 0), (5, 0), (6, 0), (7, 0), (8, 0), (9, 0), (10, 0), (11, 0), (12, 0), (13, 0)]) (.sq (.bl (.sq .reg (.cd .dead (.sq .reg (.cd .dead .skip))))) (.sq (.drw [(0, 0), (1, 0), (2, 0), (3, 0), (4, 0), (5, 0), (6, 0), (7, 0), (8, 0), (9, 1), (10, 1), (11, 0), (12, 0), (13, 0), (14, 0), (15, 0), (16, 1)]) (.sq .reg (.sq .reg (.sq .reg .ret)))))))))
theorem q30 : AllN 2 fun l => ∀ m t s d k, R.denF i30 a30 (bodyOf Tryz.f30) Tryz.f30.results.toList e30.ps e30.rs l ⟨m, t, s, d⟩ k = wrapF 2 1 sf30 l ⟨m, t, s, d⟩ k := by
  intro x0 x1 m t s d k
  kernel_rfl
theorem ok30 : FunOK Tryz.prog 30 e30 := fun_ok facts mixed (I := i30) (FnsOK.cons ok20 (FnsOK.cons ok21 (FnsOK.cons ok39 (FnsOK.cons ok61 FnsOK.nil)))) Tryz.func30 (by kernel_rfl) (by kernel_rfl) (by kernel_rfl) (an := a30) (by kernel_rfl) (by kernel_rfl) q30
def sf71 : FT 2 1 := fun a1 a2 m t s d k=>
 okB (ifB (beq a1 0) false true)<|
 force (land (shiftRight m (add a1 2112)) 18446744073709551615) fun v3=>
 okB (ifB (beq v3 1) true (ifB (beq v3 1) false true))<|
 ifB (ifB (beq v3 1) true (ble 4611686018427387905 a2)) (
 false)<|
 join (fun (m4 t4 s4 d4 : Nat)=>
 sf96 a1 m4 t4 s4 d4 fun r6 m7 t7 s7 d7=>
 k r6 m7 t7 s7 d7) fun J5=>
 okB (ifB (beq a1 0) false true)<|
 force (land (shiftRight m (add a1 384)) 18446744073709551615) fun v8=>
 force (land (shiftRight v8 28) 131071) fun v9=>
 loopN 5 (fun (_ _ _ _ _ : Nat) => false) (fun L12 (p10 m11 t11 s11 d11 : Nat)=>
 ifB (ble (succ (xor p10 9223372036854775808)) (xor v9 9223372036854775808)) (
 okB (ble (succ p10) (land (shiftRight v8 28) 131071))<|
 okB (beq (land (shiftRight d11 (shiftRight (add (land v8 268435455) (mul p10 256)) 6)) 15) 0)<|
 force (land (shiftRight m11 (add (land v8 268435455) (mul p10 256))) (mask 4)) fun v13=>
 okB (ifB (beq a1 0) false true)<|
 ifB (ifB (beq (land (shiftRight v13 0) 18446744073709551615) (land (shiftRight m11 a1) 18446744073709551615)) false true) (
 okB (ifB (beq a1 0) false true)<|
 okB (ifB (beq a1 0) false true)<|
 sf106 0 m11 t11 s11 d11 fun r14 m15 t15 s15 d15=>
 okB (beq (land (shiftRight m15 (add a1 960)) 18446744073709551615) (land (shiftRight m11 (add a1 960)) 18446744073709551615))<|
 okB (beq (land (shiftRight v13 64) 340282366920938463463374607431768211455) (land (shiftRight v13 64) 340282366920938463463374607431768211455))<|
 force (land (shiftRight m11 (add a1 960)) 18446744073709551615) fun v16=>
 sf17 v16 m15 t15 s15 d15 fun r17 m18 t18 s18 d18=>
 okB (beq (land (shiftRight v13 64) 340282366920938463463374607431768211455) (land (shiftRight v13 64) 340282366920938463463374607431768211455))<|
 force (land (shiftRight v13 64) 340282366920938463463374607431768211455) fun v19=>
 force (xor (xor 13 (shiftLeft 0 384)) (shiftLeft r17 576)) fun v20=>
 sf105 a1 v19 v20 m18 t18 s18 d18 fun m21 t21 s21 d21=>
 force (mod (add p10 1) 18446744073709551616) fun v22=>
 L12 v22 m21 t21 s21 d21)<|
 false)<|
 J5 m11 t11 s11 d11) 0 m t s d
def e71 : FunE := ⟨[.ptr (lay 104) false false, .one (.int .u64)], [.sli (lay 210)], wrapF 2 1 sf71⟩
def i71 : FI := ⟨52, [6], [4, 6, 11, 14, 19, 20, 21, 22, 32], [(17, e17), (96, e96), (105, e105), (106, e106)], []⟩
def a71 : An := (.sq .reg (.sq (.sq .reg (.cd .dead .skip)) (.sj [] (.sq .reg (.bl (.lp [(21, .sh (.one (.int .i64)))] 5 (.sq .reg (.sq (.cd .skip .ex) (.sq (.bl (.sq .reg (.sq (.drw [(0, 0), (1, 0), (2, 0), (3, 0), (4, 0), (5, 0), (6, 0), (7, 0)]) (.cd (.drw [(0, 0), (1, 0), (2, 0), (3, 0), (4, 0), (5, 0), (6, 0), (7, 0), (9, 0), (10, 0), (11, 0), (12, 0), (8, 1), (13, 1), (14, 0), (15, 1)]) .dead)))) .reg)))))) (.sq .reg .ret))))
theorem q71 : AllN 2 fun l => ∀ m t s d k, R.denF i71 a71 (bodyOf Tryz.f71) Tryz.f71.results.toList e71.ps e71.rs l ⟨m, t, s, d⟩ k = wrapF 2 1 sf71 l ⟨m, t, s, d⟩ k := by
  intro x0 x1 m t s d k
  kernel_rfl
theorem ok71 : FunOK Tryz.prog 71 e71 := fun_ok facts mixed (I := i71) (FnsOK.cons ok17 (FnsOK.cons ok96 (FnsOK.cons ok105 (FnsOK.cons ok106 FnsOK.nil)))) Tryz.func71 (by kernel_rfl) (by kernel_rfl) (by kernel_rfl) (an := a71) (by kernel_rfl) (by kernel_rfl) q71
def sf72 : FT 2 1 := fun a1 a2 m t s d k=>
 okB (ifB (beq a1 0) false true)<|
 force (land (shiftRight m (add a1 2112)) 18446744073709551615) fun v3=>
 okB (ifB (beq v3 1) true (ifB (beq v3 1) false true))<|
 ifB (ifB (beq v3 1) true (ble 4611686018427387905 a2)) (
 false)<|
 okB (ifB (beq a1 0) false true)<|
 force (xor (land (shiftRight m (add a1 2112)) 18446744073709551615) (ifB true 1 0)) fun v4=>
 force (xor m (xor (shiftLeft v4 (add a1 2112)) (mod (add v4 (add a1 2112)) 2305843009213693951))) fun m5=>
 okB (ifB (beq a1 0) false true)<|
 force (xor (land (shiftRight m5 (add a1 2304)) 18446744073709551615) a2) fun v6=>
 force (xor m5 (xor (shiftLeft v6 (add a1 2304)) (mod (add v6 (add a1 2304)) 2305843009213693951))) fun m7=>
 okB (ifB (beq a1 0) false true)<|
 force (xor (land (shiftRight m7 (add (add a1 640) 64)) 18446744073709551615) 3) fun v8=>
 force (xor m7 (xor (shiftLeft v8 (add (add a1 640) 64)) (mod (add v8 (add (add a1 640) 64)) 2305843009213693951))) fun m9=>
 okB (ifB (beq a1 0) false true)<|
 okB (ifB (beq a1 0) false true)<|
 force (land (shiftRight m9 (add a1 960)) 18446744073709551615) fun v10=>
 force (land (shiftRight m9 (add a1 640)) (mask 5)) fun v11=>
 sf53 v10 v11 m9 t s d fun r12 r13 m14 t14 s14 d14=>
 join (fun (m15 t15 s15 d15 : Nat)=>
 sf96 a1 m15 t15 s15 d15 fun r17 m18 t18 s18 d18=>
 k r17 m18 t18 s18 d18) fun J16=>
 sf107 a1 0 m14 t14 s14 d14 fun r19 m20 t20 s20 d20=>
 force (land (shiftRight r19 28) 131071) fun v21=>
 loopN 5 (fun (_ _ _ _ _ : Nat) => false) (fun L24 (p22 m23 t23 s23 d23 : Nat)=>
 ifB (ble (succ (xor p22 9223372036854775808)) (xor v21 9223372036854775808)) (
 okB (ble (succ p22) (land (shiftRight r19 28) 131071))<|
 okB (beq (land (shiftRight d23 (shiftRight (add (land r19 268435455) (mul p22 64)) 6)) 1) 0)<|
 force (land (shiftRight m23 (add (land r19 268435455) (mul p22 64))) 18446744073709551615) fun v25=>
 okB (ifB (beq a1 0) false true)<|
 force (shiftLeft t23 6) fun v26=>
 force (add t23 5) fun t27=>
 okB (ble (succ t27) 4194304)<|
 force (xor m23 (xor (shiftLeft (land (shiftRight m23 (add a1 640)) (mask 5)) (shiftLeft t23 6)) (mod (add (land (shiftRight m23 (add a1 640)) (mask 5)) t23) 2305843009213693951))) fun m28=>
 force (xor 14 (shiftLeft (add v26 4611721203067912192) 576)) fun v29=>
 sf108 a1 v25 v29 m28 t27 s23 d23 fun r30 m31 t31 s31 d31=>
 force (mod (add p22 1) 18446744073709551616) fun v32=>
 L24 v32 m31 t31 s31 d31)<|
 J16 m23 t23 s23 d23) 0 m20 t20 s20 d20
def e72 : FunE := ⟨[.ptr (lay 104) false false, .one (.int .u64)], [.sli (lay 210)], wrapF 2 1 sf72⟩
def i72 : FI := ⟨54, [], [4, 6, 11, 14, 36, 37, 38, 39], [(53, e53), (96, e96), (107, e107), (108, e108)], []⟩
def a72 : An := (.sq .reg (.sq (.sq .reg (.cd .dead .skip)) (.sq .reg (.sq .reg (.sq (.drw [(0, 0), (1, 0), (2, 0), (3, 0), (4, 0), (5, 0), (6, 0), (7, 0), (8, 1)]) (.sj [] (.sq .reg (.bl (.lp [(38, .sh (.one (.int .i64)))] 5 (.sq .reg (.sq (.cd .skip .ex) (.sq (.bl (.sq .reg .reg)) .reg)))))) (.sq .reg .ret)))))))
theorem q72 : AllN 2 fun l => ∀ m t s d k, R.denF i72 a72 (bodyOf Tryz.f72) Tryz.f72.results.toList e72.ps e72.rs l ⟨m, t, s, d⟩ k = wrapF 2 1 sf72 l ⟨m, t, s, d⟩ k := by
  intro x0 x1 m t s d k
  kernel_rfl
theorem ok72 : FunOK Tryz.prog 72 e72 := fun_ok facts mixed (I := i72) (FnsOK.cons ok53 (FnsOK.cons ok96 (FnsOK.cons ok107 (FnsOK.cons ok108 FnsOK.nil)))) Tryz.func72 (by kernel_rfl) (by kernel_rfl) (by kernel_rfl) (an := a72) (by kernel_rfl) (by kernel_rfl) q72
def sf70 : FT 3 1 := fun a1 a2 a3 m t s d k=>
 force a2 fun v4=>
 force (land (shiftRight v4 64) 18446744073709551615) fun v5=>
 sf64 a1 v5 m t s d fun r6 m7 t7 s7 d7=>
 ifB (ifB (beq r6 1) false true) (
 false)<|
 okB (ifB (beq a1 0) false true)<|
 force (land (shiftRight v4 64) 18446744073709551615) fun v8=>
 sf12 a1 v8 m7 t7 s7 d7 fun r9 m10 t10 s10 d10=>
 okB (beq (land (shiftRight m10 (add a1 512)) 18446744073709551615) (land (shiftRight m7 (add a1 512)) 18446744073709551615))<|
 okB (beq (land (shiftRight v4 64) 18446744073709551615) (land (shiftRight v4 64) 18446744073709551615))<|
 join (fun (r11 m12 t12 s12 d12 : Nat)=>
 okB (beq (land (shiftRight v4 64) 18446744073709551615) (land (shiftRight v4 64) 18446744073709551615))<|
 force (land (shiftRight v4 64) 18446744073709551615) fun v14=>
 sf61 a1 v14 r11 m12 t12 s12 d12 fun m15 t15 s15 d15=>
 k 0 m15 t15 s15 d15) fun J13=>
 ifB (beq (land a3 1023) 72) (
 force (land (shiftRight m7 (add a1 512)) 18446744073709551615) fun v16=>
 sf71 r9 v16 m10 t10 s10 d10 fun r17 m18 t18 s18 d18=>
 J13 r17 m18 t18 s18 d18)<|
 ifB (beq (land a3 1023) 73) (
 force (land (shiftRight m7 (add a1 512)) 18446744073709551615) fun v19=>
 sf72 r9 v19 m10 t10 s10 d10 fun r20 m21 t21 s21 d21=>
 J13 r20 m21 t21 s21 d21)<|
 false
def e70 : FunE := ⟨[.ptr (lay 65) false false, .agg (lay 46), .one .fn], [.one (.int .i64)], wrapF 3 1 sf70⟩
def i70 : FI := ⟨26, [4], [4, 6, 11], [(12, e12), (61, e61), (64, e64), (71, e71), (72, e72)], [(24, [71, 72])]⟩
def a70 : An := (.sq .reg (.sq (.sq .reg (.cd .dead .skip)) (.sq (.drw [(0, 0), (1, 0), (2, 0), (3, 0), (4, 0), (5, 0), (6, 0), (8, 0), (9, 0), (10, 0), (11, 0), (7, 1), (12, 1), (13, 1)]) (.sq .reg .ret))))
theorem q70 : AllN 3 fun l => ∀ m t s d k, R.denF i70 a70 (bodyOf Tryz.f70) Tryz.f70.results.toList e70.ps e70.rs l ⟨m, t, s, d⟩ k = wrapF 3 1 sf70 l ⟨m, t, s, d⟩ k := by
  intro x0 x1 x2 m t s d k
  kernel_rfl
theorem ok70 : FunOK Tryz.prog 70 e70 := fun_ok facts mixed (I := i70) (FnsOK.cons ok12 (FnsOK.cons ok61 (FnsOK.cons ok64 (FnsOK.cons ok71 (FnsOK.cons ok72 FnsOK.nil))))) Tryz.func70 (by kernel_rfl) (by kernel_rfl) (by kernel_rfl) (an := a70) (by kernel_rfl) (by kernel_rfl) q70
def sf32 : FT 2 1 := fun a1 a2 m t s d k=>
 force a2 fun v3=>
 force v3 fun v4=>
 sf70 a1 v4 72 m t s d fun r5 m6 t6 s6 d6=>
 k r5 m6 t6 s6 d6
def e32 : FunE := ⟨[.ptr (lay 65) false false, .agg (lay 46)], [.one (.int .i64)], wrapF 2 1 sf32⟩
def i32 : FI := ⟨8, [3], [3, 4], [(70, e70)], []⟩
def a32 : An := (.sq .reg (.sq .reg .ret))
theorem q32 : AllN 2 fun l => ∀ m t s d k, R.denF i32 a32 (bodyOf Tryz.f32) Tryz.f32.results.toList e32.ps e32.rs l ⟨m, t, s, d⟩ k = wrapF 2 1 sf32 l ⟨m, t, s, d⟩ k := by
  intro x0 x1 m t s d k
  kernel_rfl
theorem ok32 : FunOK Tryz.prog 32 e32 := fun_ok facts mixed (I := i32) (FnsOK.cons ok70 FnsOK.nil) Tryz.func32 (by kernel_rfl) (by kernel_rfl) (by kernel_rfl) (an := a32) (by kernel_rfl) (by kernel_rfl) q32
def sf33 : FT 2 1 := fun a1 a2 m t s d k=>
 force a2 fun v3=>
 force v3 fun v4=>
 sf70 a1 v4 73 m t s d fun r5 m6 t6 s6 d6=>
 k r5 m6 t6 s6 d6
def e33 : FunE := ⟨[.ptr (lay 65) false false, .agg (lay 46)], [.one (.int .i64)], wrapF 2 1 sf33⟩
def i33 : FI := ⟨8, [3], [3, 4], [(70, e70)], []⟩
def a33 : An := (.sq .reg (.sq .reg .ret))
theorem q33 : AllN 2 fun l => ∀ m t s d k, R.denF i33 a33 (bodyOf Tryz.f33) Tryz.f33.results.toList e33.ps e33.rs l ⟨m, t, s, d⟩ k = wrapF 2 1 sf33 l ⟨m, t, s, d⟩ k := by
  intro x0 x1 m t s d k
  kernel_rfl
theorem ok33 : FunOK Tryz.prog 33 e33 := fun_ok facts mixed (I := i33) (FnsOK.cons ok70 FnsOK.nil) Tryz.func33 (by kernel_rfl) (by kernel_rfl) (by kernel_rfl) (an := a33) (by kernel_rfl) (by kernel_rfl) q33
def sf10 : FT 2 1 := fun a1 a2 m t s d k=>
 force a2 fun v3=>
 force (shiftLeft t 6) fun v4=>
 force (add t 13) fun t5=>
 okB (ble (succ t5) 4194304)<|
 force (xor m (xor (shiftLeft (xor (xor (xor (xor (xor (xor (xor (xor (xor (xor (xor (xor 25 479615345916448342016) 9187623906865338513511114400657741709312) 175758848590827061387402103849814659650865952444992966361088) (shiftLeft 29 256)) (shiftLeft 30 320)) (shiftLeft 31 384)) (shiftLeft 32 448)) (shiftLeft 33 512)) (shiftLeft 34 576)) (shiftLeft 35 640)) (shiftLeft 36 704)) (shiftLeft 37 768)) (shiftLeft t 6)) (mod (add (xor (xor (xor (xor (xor (xor (xor (xor (xor (xor (xor (xor 25 479615345916448342016) 9187623906865338513511114400657741709312) 175758848590827061387402103849814659650865952444992966361088) (shiftLeft 29 256)) (shiftLeft 30 320)) (shiftLeft 31 384)) (shiftLeft 32 448)) (shiftLeft 33 512)) (shiftLeft 34 576)) (shiftLeft 35 640)) (shiftLeft 36 704)) (shiftLeft 37 768)) t) 2305843009213693951))) fun m6=>
 force (add v4 4612143418754203648) fun v7=>
 okB (ifB (ble (succ (xor (land (shiftRight v3 0) 18446744073709551615) 9223372036854775808)) 9223372036854775808) true (ifB (ble (succ (xor (land (shiftRight v3 0) 18446744073709551615) 9223372036854775808)) 9223372036854775808) false true))<|
 ifB (ifB (ble (succ (xor (land (shiftRight v3 0) 18446744073709551615) 9223372036854775808)) 9223372036854775808) true (ifB (ble (succ (xor (land (shiftRight v3 0) 18446744073709551615) 9223372036854775808)) (xor (land (shiftRight v7 28) 131071) 9223372036854775808)) false true)) (
 false)<|
 okB (ble (succ (land (shiftRight v3 0) 18446744073709551615)) (land (shiftRight v7 28) 131071))<|
 okB (beq (land (shiftRight d (shiftRight (add (land v7 268435455) (mul (land (shiftRight v3 0) 18446744073709551615) 64)) 6)) 1) 0)<|
 join (fun (r8 m9 t9 s9 d9 : Nat)=>
 k r8 m9 t9 s9 d9) fun J10=>
 ifB (beq (land (land (shiftRight m6 (add (land v7 268435455) (mul (land (shiftRight v3 0) 18446744073709551615) 64))) 18446744073709551615) 1023) 25) (
 force v3 fun v11=>
 sf24 a1 v11 m6 t5 s d fun r12 m13 t13 s13 d13=>
 J10 r12 m13 t13 s13 d13)<|
 ifB (beq (land (land (shiftRight m6 (add (land v7 268435455) (mul (land (shiftRight v3 0) 18446744073709551615) 64))) 18446744073709551615) 1023) 26) (
 force v3 fun v14=>
 sf25 a1 v14 m6 t5 s d fun r15 m16 t16 s16 d16=>
 J10 r15 m16 t16 s16 d16)<|
 ifB (beq (land (land (shiftRight m6 (add (land v7 268435455) (mul (land (shiftRight v3 0) 18446744073709551615) 64))) 18446744073709551615) 1023) 30) (
 force v3 fun v17=>
 sf29 a1 v17 m6 t5 s d fun r18 m19 t19 s19 d19=>
 J10 r18 m19 t19 s19 d19)<|
 ifB (beq (land (land (shiftRight m6 (add (land v7 268435455) (mul (land (shiftRight v3 0) 18446744073709551615) 64))) 18446744073709551615) 1023) 31) (
 force v3 fun v20=>
 sf30 a1 v20 m6 t5 s d fun r21 m22 t22 s22 d22=>
 J10 r21 m22 t22 s22 d22)<|
 ifB (beq (land (land (shiftRight m6 (add (land v7 268435455) (mul (land (shiftRight v3 0) 18446744073709551615) 64))) 18446744073709551615) 1023) 33) (
 force v3 fun v23=>
 sf32 a1 v23 m6 t5 s d fun r24 m25 t25 s25 d25=>
 J10 r24 m25 t25 s25 d25)<|
 ifB (beq (land (land (shiftRight m6 (add (land v7 268435455) (mul (land (shiftRight v3 0) 18446744073709551615) 64))) 18446744073709551615) 1023) 34) (
 force v3 fun v26=>
 sf33 a1 v26 m6 t5 s d fun r27 m28 t28 s28 d28=>
 J10 r27 m28 t28 s28 d28)<|
 false
def e10 : FunE := ⟨[.ptr (lay 65) false false, .agg (lay 46)], [.one (.int .i64)], wrapF 2 1 sf10⟩
def i10 : FI := ⟨25, [3], [3, 4, 5, 10, 16], [(24, e24), (25, e25), (29, e29), (30, e30), (32, e32), (33, e33)], [(24, [24, 25, 29, 30, 32, 33])]⟩
def a10 : An := (.sq .reg (.sq .reg (.sq (.sq .reg (.cd .dead .skip)) (.sq (.drw [(0, 0), (1, 0), (2, 0), (3, 0), (4, 0), (5, 0), (6, 0), (7, 1), (8, 0)]) .ret))))
theorem q10 : AllN 2 fun l => ∀ m t s d k, R.denF i10 a10 (bodyOf Tryz.f10) Tryz.f10.results.toList e10.ps e10.rs l ⟨m, t, s, d⟩ k = wrapF 2 1 sf10 l ⟨m, t, s, d⟩ k := by
  intro x0 x1 m t s d k
  kernel_rfl
theorem ok10 : FunOK Tryz.prog 10 e10 := fun_ok facts mixed (I := i10) (FnsOK.cons ok24 (FnsOK.cons ok25 (FnsOK.cons ok29 (FnsOK.cons ok30 (FnsOK.cons ok32 (FnsOK.cons ok33 FnsOK.nil)))))) Tryz.func10 (by kernel_rfl) (by kernel_rfl) (by kernel_rfl) (an := a10) (by kernel_rfl) (by kernel_rfl) q10
def sf13 : FT 1 1 := fun a1 m t s d k=>
 okB (ifB (beq a1 0) false true)<|
 force (land (shiftRight m (add a1 960)) 18446744073709551615) fun v2=>
 k v2 m t s d
def e13 : FunE := ⟨[.ptr (lay 104) false false], [.ptr (lay 108) false false], wrapF 1 1 sf13⟩
def i13 : FI := ⟨7, [], [2], [], []⟩
def a13 : An := (.sq .reg (.sq .reg .ret))
theorem q13 : AllN 1 fun l => ∀ m t s d k, R.denF i13 a13 (bodyOf Tryz.f13) Tryz.f13.results.toList e13.ps e13.rs l ⟨m, t, s, d⟩ k = wrapF 1 1 sf13 l ⟨m, t, s, d⟩ k := by
  intro x0 m t s d k
  kernel_rfl
theorem ok13 : FunOK Tryz.prog 13 e13 := fun_ok facts mixed (I := i13) FnsOK.nil Tryz.func13 (by kernel_rfl) (by kernel_rfl) (by kernel_rfl) (an := a13) (by kernel_rfl) (by kernel_rfl) q13
def sf6r : FT 0 1 := fun  m t s d k=>
 force (shiftLeft t 6) fun v1=>
 force (add t 8) fun t2=>
 okB (ble (succ t2) 4194304)<|
 force (xor m (xor (shiftLeft (xor 0 (shiftLeft 0 256)) (shiftLeft t 6)) (mod (add (xor 0 (shiftLeft 0 256)) t) 2305843009213693951))) fun m3=>
 force (xor (xor (xor (xor (xor (xor (add v1 4611756387708436480) 18446744073709551616) 12554203470773361527671578846415332832204710888928069025792) (shiftLeft 9 256)) (shiftLeft 1 320)) (shiftLeft 9 384)) (shiftLeft 9 448)) fun v4=>
 force v4 fun v5=>
 sf7 v5 m3 t2 s d fun r6 r7 m8 t8 s8 d8=>
 ifB (beq r6 0) (
 false)<|
 force (xor 8 36893488147419103232) fun v9=>
 sf10 r6 v9 m8 t8 s8 d8 fun r10 m11 t11 s11 d11=>
 force 0 fun v12=>
 sf10 r6 v12 m11 t11 s11 d11 fun r13 m14 t14 s14 d14=>
 force 1 fun v15=>
 sf10 r6 v15 m14 t14 s14 d14 fun r16 m17 t17 s17 d17=>
 sf12 r6 1 m17 t17 s17 d17 fun r18 m19 t19 s19 d19=>
 ifB (beq r18 0) (
 false)<|
 sf13 r18 m19 t19 s19 d19 fun r20 m21 t21 s21 d21=>
 sf17 r20 m21 t21 s21 d21 fun r22 m23 t23 s23 d23=>
 okB (ifB (beq r7 0) (beq r7 0) true)<|
 okB (ifB (ifB (beq r7 0) (beq r10 0) false) (ifB (beq r7 0) (beq r10 0) false) true)<|
 okB (ifB (ifB (ifB (beq r7 0) (beq r10 0) false) (beq r13 0) false) (ifB (ifB (beq r7 0) (beq r10 0) false) (beq r13 0) false) true)<|
 okB (ifB (ifB (ifB (ifB (beq r7 0) (beq r10 0) false) (beq r13 0) false) (beq r16 0) false) (ifB (ifB (ifB (beq r7 0) (beq r10 0) false) (beq r13 0) false) (beq r16 0) false) true)<|
 okB (ifB (ifB (ifB (ifB (ifB (beq r7 0) (beq r10 0) false) (beq r13 0) false) (beq r16 0) false) (beq (land (shiftRight r22 28) 131071) 2) false) (ble 2 (land (shiftRight r22 28) 131071)) true)<|
 okB (ifB (ifB (ifB (ifB (ifB (beq r7 0) (beq r10 0) false) (beq r13 0) false) (beq r16 0) false) (beq (land (shiftRight r22 28) 131071) 2) false) (beq (land (shiftRight d23 (shiftRight (add (land r22 268435455) 320) 6)) 1) 0) true)<|
 okB (ifB (ifB (ifB (ifB (ifB (beq r7 0) (beq r10 0) false) (beq r13 0) false) (beq r16 0) false) (beq (land (shiftRight r22 28) 131071) 2) false) (ifB (ifB (ifB (ifB (beq r7 0) (beq r10 0) false) (beq r13 0) false) (beq r16 0) false) (beq (land (shiftRight r22 28) 131071) 2) false) true)<|
 okB (ifB (ifB (ifB (ifB (ifB (ifB (beq r7 0) (beq r10 0) false) (beq r13 0) false) (beq r16 0) false) (beq (land (shiftRight r22 28) 131071) 2) false) (beq (land (shiftRight m23 (add (land r22 268435455) 320)) 18446744073709551615) 2) false) (ble 2 (land (shiftRight r22 28) 131071)) true)<|
 okB (ifB (ifB (ifB (ifB (ifB (ifB (beq r7 0) (beq r10 0) false) (beq r13 0) false) (beq r16 0) false) (beq (land (shiftRight r22 28) 131071) 2) false) (beq (land (shiftRight m23 (add (land r22 268435455) 320)) 18446744073709551615) 2) false) (beq (land (shiftRight d23 (shiftRight (add (add (land r22 268435455) 320) 64) 6)) 1) 0) true)<|
 okB (ifB (ifB (ifB (ifB (ifB (ifB (beq r7 0) (beq r10 0) false) (beq r13 0) false) (beq r16 0) false) (beq (land (shiftRight r22 28) 131071) 2) false) (beq (land (shiftRight m23 (add (land r22 268435455) 320)) 18446744073709551615) 2) false) (ifB (ifB (ifB (ifB (ifB (beq r7 0) (beq r10 0) false) (beq r13 0) false) (beq r16 0) false) (beq (land (shiftRight r22 28) 131071) 2) false) (beq (land (shiftRight m23 (add (land r22 268435455) 320)) 18446744073709551615) 2) false) true)<|
 force (ifB (ifB (ifB (ifB (ifB (ifB (ifB (beq r7 0) (beq r10 0) false) (beq r13 0) false) (beq r16 0) false) (beq (land (shiftRight r22 28) 131071) 2) false) (beq (land (shiftRight m23 (add (land r22 268435455) 320)) 18446744073709551615) 2) false) (beq (land (shiftRight m23 (add (add (land r22 268435455) 320) 64)) 18446744073709551615) 0) false) 1 0) fun v24=>
 k v24 m23 t23 s23 d23
def e6r : FunE := ⟨[], [.one .bool], wrapF 0 1 sf6r⟩
def i6r : FI := ⟨69, [1], [0, 1, 2, 3, 4, 5, 6, 7, 8, 13, 19, 32, 38, 42, 46, 50, 55, 62], [(7, e7), (10, e10), (12, e12), (13, e13), (17, e17)], []⟩
def a6r : An := (.sq .reg (.sq .reg (.sq .reg (.sq (.sq .reg (.cd .dead .skip)) (.sq .reg (.sq .reg (.sq .reg (.sq .reg (.sq (.sq .reg (.cd .dead .skip)) (.sq .reg (.sq .reg .ret)))))))))))
theorem q6r : AllN 0 fun l => ∀ m t s d k, R.denF i6r a6r (bodyOf Tryz.f6) Tryz.f6.results.toList e6r.ps e6r.rs l ⟨m, t, s, d⟩ k = wrapF 0 1 sf6r l ⟨m, t, s, d⟩ k := by
  intro m t s d k
  kernel_rfl
theorem ok6r : FunOK Tryz.prog 6 e6r := fun_ok facts mixed (I := i6r) (FnsOK.cons ok7 (FnsOK.cons ok10 (FnsOK.cons ok12 (FnsOK.cons ok13 (FnsOK.cons ok17 FnsOK.nil))))) Tryz.func6 (by kernel_rfl) (by kernel_rfl) (by kernel_rfl) (an := a6r) (by kernel_rfl) (by kernel_rfl) q6r
def sf6 : FT 0 1 := fun m t s d k=>
 sf6r m t s d fun r0 m1 t1 s1 d1=>
 ifB (beq (shiftRight m 64) (shiftRight (land (shiftRight m1 0) (mask t)) 64)) (k r0 m t s1 (mod d1 (pow 2 t)))<|
 k r0 m1 t1 s1 d1
def e6 : FunE := ⟨[], [.one .bool], wrapF 0 1 sf6⟩
theorem q6 : AllN 0 fun l => ∀ m t s d k, resetF e6r.rs e6r.f l ⟨m, t, s, d⟩ k = wrapF 0 1 sf6 l ⟨m, t, s, d⟩ k := by
  intro  m t s d k
  kernel_rfl
theorem ok6 : FunOK Tryz.prog 6 e6 := FunOK.wrap (FunOK.reset (ps := e6r.ps) (rs := e6r.rs) (F := e6r.f) ok6r) q6
def sf8 : FT 1 1 := fun a1 m t s d k=>
 okB (ifB (beq a1 0) false true)<|
 force (land (shiftRight m (add a1 704)) 18446744073709551615) fun v2=>
 k v2 m t s d
def e8 : FunE := ⟨[.ptr (lay 65) false false], [.ptr (lay 85) false false], wrapF 1 1 sf8⟩
def i8 : FI := ⟨7, [], [2], [], []⟩
def a8 : An := (.sq .reg (.sq .reg .ret))
theorem q8 : AllN 1 fun l => ∀ m t s d k, R.denF i8 a8 (bodyOf Tryz.f8) Tryz.f8.results.toList e8.ps e8.rs l ⟨m, t, s, d⟩ k = wrapF 1 1 sf8 l ⟨m, t, s, d⟩ k := by
  intro x0 m t s d k
  kernel_rfl
theorem ok8 : FunOK Tryz.prog 8 e8 := fun_ok facts mixed (I := i8) FnsOK.nil Tryz.func8 (by kernel_rfl) (by kernel_rfl) (by kernel_rfl) (an := a8) (by kernel_rfl) (by kernel_rfl) q8
def sf9 : FT 1 1 := fun a1 m t s d k=>
 okB (ifB (beq a1 0) false true)<|
 force (land (shiftRight m (add a1 128)) 18446744073709551615) fun v2=>
 k v2 m t s d
def e9 : FunE := ⟨[.ptr (lay 85) false false], [.ptr (lay 157) false false], wrapF 1 1 sf9⟩
def i9 : FI := ⟨7, [], [2], [], []⟩
def a9 : An := (.sq .reg (.sq .reg .ret))
theorem q9 : AllN 1 fun l => ∀ m t s d k, R.denF i9 a9 (bodyOf Tryz.f9) Tryz.f9.results.toList e9.ps e9.rs l ⟨m, t, s, d⟩ k = wrapF 1 1 sf9 l ⟨m, t, s, d⟩ k := by
  intro x0 m t s d k
  kernel_rfl
theorem ok9 : FunOK Tryz.prog 9 e9 := fun_ok facts mixed (I := i9) FnsOK.nil Tryz.func9 (by kernel_rfl) (by kernel_rfl) (by kernel_rfl) (an := a9) (by kernel_rfl) (by kernel_rfl) q9
def sf38 : FT 1 1 := fun a1 m t s d k=>
 okB (ifB (beq a1 0) false true)<|
 force (land (shiftRight m (add a1 512)) 18446744073709551615) fun v2=>
 k v2 m t s d
def e38 : FunE := ⟨[.ptr (lay 65) false false], [.one (.int .u64)], wrapF 1 1 sf38⟩
def i38 : FI := ⟨7, [], [2], [], []⟩
def a38 : An := (.sq .reg (.sq .reg .ret))
theorem q38 : AllN 1 fun l => ∀ m t s d k, R.denF i38 a38 (bodyOf Tryz.f38) Tryz.f38.results.toList e38.ps e38.rs l ⟨m, t, s, d⟩ k = wrapF 1 1 sf38 l ⟨m, t, s, d⟩ k := by
  intro x0 m t s d k
  kernel_rfl
theorem ok38 : FunOK Tryz.prog 38 e38 := fun_ok facts mixed (I := i38) FnsOK.nil Tryz.func38 (by kernel_rfl) (by kernel_rfl) (by kernel_rfl) (an := a38) (by kernel_rfl) (by kernel_rfl) q38
def sf11 : FT 2 0 := fun a1 a2 m t s d k=>
 loopN 68 (fun (_ _ _ _ _ : Nat) => false) (fun L5 (p3 m4 t4 s4 d4 : Nat)=>
 ifB (ble (succ (xor p3 9223372036854775808)) (xor a2 9223372036854775808)) (
 join (fun (m6 t6 s6 d6 : Nat)=>
 force (mod (add p3 1) 18446744073709551616) fun v8=>
 L5 v8 m6 t6 s6 d6) fun J7=>
 force 0 fun v9=>
 sf10 a1 v9 m4 t4 s4 d4 fun r10 m11 t11 s11 d11=>
 loopN 12 (fun (_ _ _ _ _ : Nat) => false) (fun L14 (p12 m13 t13 s13 d13 : Nat)=>
 join (fun (r15 m16 t16 s16 d16 : Nat)=>
 join (fun (r18 m19 t19 s19 d19 : Nat)=>
 join (fun (r21 m22 t22 s22 d22 : Nat)=>
 join (fun (r24 m25 t25 s25 d25 : Nat)=>
 okB (ifB (ble (succ (xor p12 9223372036854775808)) 9223372036854776108) (ble (succ (xor p12 9223372036854775808)) 9223372036854776108) true)<|
 ifB (ifB (ble (succ (xor p12 9223372036854775808)) 9223372036854776108) (ble 9223372036854775809 (xor r24 9223372036854775808)) false) (
 force 1 fun v27=>
 sf10 a1 v27 m25 t25 s25 d25 fun r28 m29 t29 s29 d29=>
 ifB (ifB (beq r28 0) false true) (
 false)<|
 force (mod (add p12 1) 18446744073709551616) fun v30=>
 L14 v30 m29 t29 s29 d29)<|
 J7 m25 t25 s25 d25) fun J26=>
 ifB (ble (succ (xor p12 9223372036854775808)) 9223372036854776108) (
 sf37 r18 r21 m22 t22 s22 d22 fun r31 m32 t32 s32 d32=>
 J26 r31 m32 t32 s32 d32)<|
 J26 0 m22 t22 s22 d22) fun J23=>
 ifB (ble (succ (xor p12 9223372036854775808)) 9223372036854776108) (
 sf38 a1 m19 t19 s19 d19 fun r33 m34 t34 s34 d34=>
 J23 r33 m34 t34 s34 d34)<|
 J23 0 m19 t19 s19 d19) fun J20=>
 ifB (ble (succ (xor p12 9223372036854775808)) 9223372036854776108) (
 sf9 r15 m16 t16 s16 d16 fun r35 m36 t36 s36 d36=>
 J20 r35 m36 t36 s36 d36)<|
 J20 0 m16 t16 s16 d16) fun J17=>
 ifB (ble (succ (xor p12 9223372036854775808)) 9223372036854776108) (
 sf8 a1 m13 t13 s13 d13 fun r37 m38 t38 s38 d38=>
 J17 r37 m38 t38 s38 d38)<|
 J17 0 m13 t13 s13 d13) 0 m11 t11 s11 d11)<|
 k m4 t4 s4 d4) 0 m t s d
def e11 : FunE := ⟨[.ptr (lay 65) false false, .one (.int .i64)], [], wrapF 2 0 sf11⟩
def i11 : FI := ⟨31, [], [4, 5, 8, 16, 24, 30], [(8, e8), (9, e9), (10, e10), (37, e37), (38, e38)], []⟩
def a11 : An := (.sq .reg (.bl (.lp [(4, .sh (.one (.int .i64)))] 68 (.sq (.sq .reg (.cd .skip .ex)) (.sj [] (.bl (.sq .reg (.sq .reg (.bl (.lp [(5, .sh (.one (.int .i64)))] 12 (.sq (.sq .reg (.cd .skip .ex)) (.sq (.bl (.sq .reg (.cd .dead .skip))) .reg))))))) .reg)))))
theorem q11 : AllN 2 fun l => ∀ m t s d k, R.denF i11 a11 (bodyOf Tryz.f11) Tryz.f11.results.toList e11.ps e11.rs l ⟨m, t, s, d⟩ k = wrapF 2 0 sf11 l ⟨m, t, s, d⟩ k := by
  intro x0 x1 m t s d k
  kernel_rfl
theorem ok11 : FunOK Tryz.prog 11 e11 := fun_ok facts mixed (I := i11) (FnsOK.cons ok8 (FnsOK.cons ok9 (FnsOK.cons ok10 (FnsOK.cons ok37 (FnsOK.cons ok38 FnsOK.nil))))) Tryz.func11 (by kernel_rfl) (by kernel_rfl) (by kernel_rfl) (an := a11) (by kernel_rfl) (by kernel_rfl) q11
end
end Go.Proofs.YtaekfgbfpfecdaaGreat.VM
