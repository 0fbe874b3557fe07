/- Functions of the program, printed: U0; no conditions. -/
import Derived.Test.YtaekfgbfpfecdaaGreatN7
namespace Go.Proofs.YtaekfgbfpfecdaaGreat.VM
open Go R
open Nat (land shiftRight beq add xor shiftLeft ble succ mod mul sub div lor pow)
set_option linter.unusedVariables false
set_option maxRecDepth 1000000
noncomputable section
def sf15 : FT 1 1 := fun a1 m t s d k=>
 okB (ifB (beq a1 0) false true)<|
 force (land (shiftRight m (add a1 640)) (mask 5)) fun v2=>
 force v2 fun v3=>
 k v3 m t s d
def e15 : FunE := ⟨[.ptr (lay 104) false false], [.agg (lay 53)], wrapF 1 1 sf15⟩
def i15 : FI := ⟨7, [2], [2], [], []⟩
def a15 : An := (.sq .reg (.sq .reg .ret))
theorem q15 : AllN 1 fun l => ∀ m t s d k, R.denF i15 a15 (bodyOf Tryz.f15) Tryz.f15.results.toList e15.ps e15.rs l ⟨m, t, s, d⟩ k = wrapF 1 1 sf15 l ⟨m, t, s, d⟩ k := by
  intro x0 m t s d k
  kernel_rfl
theorem ok15 : FunOK Tryz.prog 15 e15 := fun_ok facts mixed (I := i15) FnsOK.nil Tryz.func15 (by kernel_rfl) (by kernel_rfl) (by kernel_rfl) (an := a15) (by kernel_rfl) (by kernel_rfl) q15
def sf22 : FT 2 1 := fun a1 a2 m t s d k=>
 force a1 fun v3=>
 okB (ifB (ble (succ (xor a2 9223372036854775808)) 9223372036854775809) true (ifB (ble (succ (xor a2 9223372036854775808)) 9223372036854775809) false true))<|
 ifB (ifB (ble (succ (xor a2 9223372036854775808)) 9223372036854775809) true (ble (succ (xor (land (shiftRight (land (shiftRight v3 0) 18446744073709551615) 28) 131071) 9223372036854775808)) (xor a2 9223372036854775808))) (
 false)<|
 okB (ble (succ (mod (sub (add a2 18446744073709551616) 1) 18446744073709551616)) (land (shiftRight (land (shiftRight v3 0) 18446744073709551615) 28) 131071))<|
 okB (beq (land (shiftRight d (shiftRight (add (add (land (land (shiftRight v3 0) 18446744073709551615) 268435455) (mul (mod (sub (add a2 18446744073709551616) 1) 18446744073709551616) 256)) 192) 6)) 1) 0)<|
 force (land (shiftRight m (add (add (land (land (shiftRight v3 0) 18446744073709551615) 268435455) (mul (mod (sub (add a2 18446744073709551616) 1) 18446744073709551616) 256)) 192)) 18446744073709551615) fun v4=>
 ifB (beq v4 1) (
 false)<|
 force (xor (mod (add 83886080 (mod a2 4294967296)) 4294967296) 129127208515966861312000) fun v5=>
 force v5 fun v6=>
 k v6 m t s d
def e22 : FunE := ⟨[.agg (lay 31), .one (.int .i64)], [.agg (lay 44)], wrapF 2 1 sf22⟩
def i22 : FI := ⟨28, [2, 4], [2, 4, 5, 8, 14, 22], [], []⟩
def a22 : An := (.sq .reg (.sq (.sq .reg (.cd .dead .skip)) (.sq .reg (.sq (.sq .reg (.cd .dead .skip)) (.sq .reg .ret)))))
theorem q22 : AllN 2 fun l => ∀ m t s d k, R.denF i22 a22 (bodyOf Tryz.f22) Tryz.f22.results.toList e22.ps e22.rs l ⟨m, t, s, d⟩ k = wrapF 2 1 sf22 l ⟨m, t, s, d⟩ k := by
  intro x0 x1 m t s d k
  kernel_rfl
theorem ok22 : FunOK Tryz.prog 22 e22 := fun_ok facts mixed (I := i22) FnsOK.nil Tryz.func22 (by kernel_rfl) (by kernel_rfl) (by kernel_rfl) (an := a22) (by kernel_rfl) (by kernel_rfl) q22
def sf21 : FT 3 1 := fun a1 a2 a3 m t s d k=>
 force a1 fun v4=>
 okB (ble (succ (mod (sub (add a2 18446744073709551616) 1) 18446744073709551616)) (land (shiftRight (land (shiftRight v4 0) 18446744073709551615) 28) 131071))<|
 okB (beq (land (shiftRight d (shiftRight (add (land (land (shiftRight v4 0) 18446744073709551615) 268435455) (mul (mod (sub (add a2 18446744073709551616) 1) 18446744073709551616) 256)) 6)) 1) 0)<|
 force v4 fun v5=>
 sf22 v5 a2 m t s d fun r6 m7 t7 s7 d7=>
 okB (beq (land (shiftRight v4 320) 18446744073709551615) (land (shiftRight v4 320) 18446744073709551615))<|
 okB (beq (land (shiftRight v4 256) 18446744073709551615) (land (shiftRight v4 256) 18446744073709551615))<|
 okB (beq (land (shiftRight v4 192) 18446744073709551615) (land (shiftRight v4 192) 18446744073709551615))<|
 okB (beq (land (shiftRight v4 128) 18446744073709551615) (land (shiftRight v4 128) 18446744073709551615))<|
 okB (beq (land (shiftRight d7 (shiftRight (add (land (land (shiftRight v4 0) 18446744073709551615) 268435455) (mul (mod (sub (add a2 18446744073709551616) 1) 18446744073709551616) 256)) 6)) 1) 0)<|
 okB true<|
 okB (beq (land (shiftRight v4 0) 18446744073709551615) (land (shiftRight v4 0) 18446744073709551615))<|
 okB (beq (land (shiftRight v4 320) 18446744073709551615) (land (shiftRight v4 320) 18446744073709551615))<|
 okB (beq (land (shiftRight v4 256) 18446744073709551615) (land (shiftRight v4 256) 18446744073709551615))<|
 okB (beq (land (shiftRight v4 192) 18446744073709551615) (land (shiftRight v4 192) 18446744073709551615))<|
 okB (beq (land (shiftRight v4 128) 18446744073709551615) (land (shiftRight v4 128) 18446744073709551615))<|
 okB (beq (land (shiftRight d7 (shiftRight (add (land (land (shiftRight v4 0) 18446744073709551615) 268435455) (mul (mod (sub (add a2 18446744073709551616) 1) 18446744073709551616) 256)) 6)) 1) 0)<|
 okB true<|
 okB (beq (land (shiftRight v4 0) 18446744073709551615) (land (shiftRight v4 0) 18446744073709551615))<|
 okB (beq v4 v4)<|
 force (xor (xor (xor (xor (xor (xor (xor a2 (shiftLeft r6 64)) 0) (shiftLeft 0 256)) (shiftLeft a3 320)) (shiftLeft (land (shiftRight v4 192) 18446744073709551615) 448)) (shiftLeft (land (shiftRight v4 256) 18446744073709551615) 512)) (shiftLeft (land (shiftRight v4 320) 18446744073709551615) 576)) fun v8=>
 join (fun (p9 p10 m11 t11 s11 d11 : Nat)=>
 force p10 fun v13=>
 force v13 fun v14=>
 k v14 m11 t11 s11 d11) fun J12=>
 force (land (shiftRight v4 64) 18446744073709551615) fun v15=>
 loopN 5 (fun (_ _ _ _ _ _ _ _ : Nat) => false) (fun L21 (p16 p17 p18 p19 m20 t20 s20 d20 : Nat)=>
 ifB (ble (succ (xor p19 9223372036854775808)) (xor v15 9223372036854775808)) (
 okB (ble (succ p19) (land (shiftRight (land (shiftRight p16 0) 18446744073709551615) 28) 131071))<|
 okB (beq (land (shiftRight d20 (shiftRight (add (land (land (shiftRight p16 0) 18446744073709551615) 268435455) (mul p19 256)) 6)) 1) 0)<|
 force p16 fun v22=>
 force (mod (add p19 1) 18446744073709551616) fun v23=>
 sf22 v22 v23 m20 t20 s20 d20 fun r24 m25 t25 s25 d25=>
 okB (beq (land (shiftRight d25 (shiftRight (add (land (land (shiftRight p16 0) 18446744073709551615) 268435455) (mul p19 256)) 6)) 1) 0)<|
 okB true<|
 okB (beq (land (shiftRight p16 0) 18446744073709551615) (land (shiftRight p16 0) 18446744073709551615))<|
 okB (beq (land (shiftRight p18 384) 18446744073709551615) (land (shiftRight p18 384) 18446744073709551615))<|
 force (xor (xor (mod (add p19 1) 18446744073709551616) (shiftLeft r24 64)) 0) fun v26=>
 okB (beq (land (shiftRight p18 384) 18446744073709551615) (land (shiftRight p18 384) 18446744073709551615))<|
 join (fun (r27 m28 t28 s28 d28 : Nat)=>
 force (xor p18 (shiftLeft (xor (land (shiftRight p18 384) 18446744073709551615) r27) 384)) fun v30=>
 force (mod (add p19 1) 18446744073709551616) fun v31=>
 L21 p16 p17 v30 v31 m28 t28 s28 d28) fun J29=>
 appR 4 (land (shiftRight p18 384) 18446744073709551615) 1 v26 m25 t25 s25 d25 J29)<|
 J12 p17 p18 m20 t20 s20 d20) v4 0 v8 0 m7 t7 s7 d7
def e21 : FunE := ⟨[.agg (lay 31), .one (.int .i64), .one (.int .u32)], [.agg (lay 76)], wrapF 3 1 sf21⟩
def i21 : FI := ⟨58, [3, 6, 7, 53], [3, 6, 7, 8, 34, 35, 36], [(22, e22)], []⟩
def a21 : An := (.sq .reg (.sq (.drw [(0, 0), (1, 0), (2, 0), (4, 0), (5, 0), (6, 0), (7, 0), (8, 0), (9, 0), (10, 0), (11, 0), (12, 0), (13, 0), (14, 0), (15, 0), (16, 0), (17, 0), (18, 0), (19, 0), (20, 0), (21, 0), (22, 0), (3, 1), (23, 0), (24, 2), (25, 1)]) (.sj [(6, .loc (lay 76)), (7, .loc (lay 76))] (.sq .reg (.bl (.lp [(3, .loc (lay 31)), (6, .loc (lay 76)), (7, .loc (lay 76)), (35, .sh (.one (.int .i64)))] 5 (.sq .reg (.sq (.cd .skip .ex) (.sq (.bl (.sq .reg (.drw [(0, 0), (1, 0), (2, 0), (3, 0), (4, 0), (5, 0), (6, 0), (8, 0), (9, 0), (10, 0), (11, 0), (12, 0), (13, 0), (7, 1), (14, 0), (15, 2), (16, 1), (17, 0), (18, 1)]))) .reg)))))) (.sq .reg .ret))))
theorem q21 : AllN 3 fun l => ∀ m t s d k, R.denF i21 a21 (bodyOf Tryz.f21) Tryz.f21.results.toList e21.ps e21.rs l ⟨m, t, s, d⟩ k = wrapF 3 1 sf21 l ⟨m, t, s, d⟩ k := by
  intro x0 x1 x2 m t s d k
  kernel_rfl
theorem ok21 : FunOK Tryz.prog 21 e21 := fun_ok facts mixed (I := i21) (FnsOK.cons ok22 FnsOK.nil) Tryz.func21 (by kernel_rfl) (by kernel_rfl) (by kernel_rfl) (an := a21) (by kernel_rfl) (by kernel_rfl) q21
def sf110 : FT 1 1 := fun a1 m t s d k=>
 ifB true (
 sf149 0 m t s d fun r2 m3 t3 s3 d3=>
 k 0 m3 t3 s3 d3)<|
 false
def e110 : FunE := ⟨[.one (.cst 1)], [.one (.cst 1)], wrapF 1 1 sf110⟩
def i110 : FI := ⟨7, [], [2], [(149, e149)], []⟩
def a110 : An := (.sq .reg (.sq (.cd (.sq .reg .ret) .dead) .dead))
theorem q110 : AllN 1 fun l => ∀ m t s d k, R.denF i110 a110 (bodyOf Tryz.f110) Tryz.f110.results.toList e110.ps e110.rs l ⟨m, t, s, d⟩ k = wrapF 1 1 sf110 l ⟨m, t, s, d⟩ k := by
  intro x0 m t s d k
  kernel_rfl
theorem ok110 : FunOK Tryz.prog 110 e110 := fun_ok facts mixed (I := i110) (FnsOK.cons ok149 FnsOK.nil) Tryz.func110 (by kernel_rfl) (by kernel_rfl) (by kernel_rfl) (an := a110) (by kernel_rfl) (by kernel_rfl) q110
def sf74 : FT 1 1 := fun a1 m t s d k=>
 okB (ifB true true true)<|
 join (fun (r2 m3 t3 s3 d3 : Nat)=>
 okB (ifB (ifB true true false) (ifB true true false) true)<|
 force (ifB (ifB (ifB true true false) true false) 1 0) fun v5=>
 k v5 m3 t3 s3 d3) fun J4=>
 ifB (ifB true true false) (
 sf110 0 m t s d fun r6 m7 t7 s7 d7=>
 J4 r6 m7 t7 s7 d7)<|
 J4 0 m t s d
def e74 : FunE := ⟨[.one (.cst 1)], [.one .bool], wrapF 1 1 sf74⟩
def i74 : FI := ⟨15, [], [2, 5, 9], [(110, e110)], []⟩
def a74 : An := (.sq .reg (.sq .reg .ret))
theorem q74 : AllN 1 fun l => ∀ m t s d k, R.denF i74 a74 (bodyOf Tryz.f74) Tryz.f74.results.toList e74.ps e74.rs l ⟨m, t, s, d⟩ k = wrapF 1 1 sf74 l ⟨m, t, s, d⟩ k := by
  intro x0 m t s d k
  kernel_rfl
theorem ok74 : FunOK Tryz.prog 74 e74 := fun_ok facts mixed (I := i74) (FnsOK.cons ok110 FnsOK.nil) Tryz.func74 (by kernel_rfl) (by kernel_rfl) (by kernel_rfl) (an := a74) (by kernel_rfl) (by kernel_rfl) q74
def sf40 : FT 1 1 := fun a1 m t s d k=>
 sf74 0 m t s d fun r2 m3 t3 s3 d3=>
 join (fun (r4 m5 t5 s5 d5 : Nat)=>
 okB (ifB (beq r2 1) (beq r2 1) true)<|
 force (ifB (ifB (beq r2 1) (beq r4 1) false) 1 0) fun v7=>
 k v7 m5 t5 s5 d5) fun J6=>
 ifB (beq r2 1) (
 sf74 0 m3 t3 s3 d3 fun r8 m9 t9 s9 d9=>
 J6 r8 m9 t9 s9 d9)<|
 J6 0 m3 t3 s3 d3
def e40 : FunE := ⟨[.one (.cst 0)], [.one .bool], wrapF 1 1 sf40⟩
def i40 : FI := ⟨11, [], [2, 6], [(74, e74)], []⟩
def a40 : An := (.sq .reg (.sq .reg .ret))
theorem q40 : AllN 1 fun l => ∀ m t s d k, R.denF i40 a40 (bodyOf Tryz.f40) Tryz.f40.results.toList e40.ps e40.rs l ⟨m, t, s, d⟩ k = wrapF 1 1 sf40 l ⟨m, t, s, d⟩ k := by
  intro x0 m t s d k
  kernel_rfl
theorem ok40 : FunOK Tryz.prog 40 e40 := fun_ok facts mixed (I := i40) (FnsOK.cons ok74 FnsOK.nil) Tryz.func40 (by kernel_rfl) (by kernel_rfl) (by kernel_rfl) (an := a40) (by kernel_rfl) (by kernel_rfl) q40
def sf57 : FT 1 1 := fun a1 m t s d k=>
 force a1 fun v2=>
 okB (ifB (beq (land (shiftRight v2 0) 18446744073709551615) 0) true (ifB (beq (land (shiftRight v2 0) 18446744073709551615) 0) false true))<|
 force (ifB (ifB (beq (land (shiftRight v2 0) 18446744073709551615) 0) true (beq (land (shiftRight v2 64) 18446744073709551615) 0)) 1 0) fun v3=>
 k v3 m t s d
def e57 : FunE := ⟨[.agg (lay 44)], [.one .bool], wrapF 1 1 sf57⟩
def i57 : FI := ⟨11, [1], [1, 2, 6], [], []⟩
def a57 : An := (.sq .reg (.sq .reg .ret))
theorem q57 : AllN 1 fun l => ∀ m t s d k, R.denF i57 a57 (bodyOf Tryz.f57) Tryz.f57.results.toList e57.ps e57.rs l ⟨m, t, s, d⟩ k = wrapF 1 1 sf57 l ⟨m, t, s, d⟩ k := by
  intro x0 m t s d k
  kernel_rfl
theorem ok57 : FunOK Tryz.prog 57 e57 := fun_ok facts mixed (I := i57) FnsOK.nil Tryz.func57 (by kernel_rfl) (by kernel_rfl) (by kernel_rfl) (an := a57) (by kernel_rfl) (by kernel_rfl) q57
def sf76 : FT 1 1 := fun a1 m t s d k=>
 okB (ifB (ifB (ble (succ (xor a1 9223372036854775808)) 9223372036854775809) false true) (ifB (ble (succ (xor a1 9223372036854775808)) 9223372036854775809) false true) true)<|
 force (ifB (ifB (ifB (ble (succ (xor a1 9223372036854775808)) 9223372036854775809) false true) (ifB (ble 9223372036854775841 (xor a1 9223372036854775808)) false true) false) 1 0) fun v2=>
 k v2 m t s d
def e76 : FunE := ⟨[.one (.int .i64)], [.one .bool], wrapF 1 1 sf76⟩
def i76 : FI := ⟨9, [], [2, 5], [], []⟩
def a76 : An := (.sq .reg (.sq .reg .ret))
theorem q76 : AllN 1 fun l => ∀ m t s d k, R.denF i76 a76 (bodyOf Tryz.f76) Tryz.f76.results.toList e76.ps e76.rs l ⟨m, t, s, d⟩ k = wrapF 1 1 sf76 l ⟨m, t, s, d⟩ k := by
  intro x0 m t s d k
  kernel_rfl
theorem ok76 : FunOK Tryz.prog 76 e76 := fun_ok facts mixed (I := i76) FnsOK.nil Tryz.func76 (by kernel_rfl) (by kernel_rfl) (by kernel_rfl) (an := a76) (by kernel_rfl) (by kernel_rfl) q76
def sf111 : FT 2 1 := fun a1 a2 m t s d k=>
 join (fun (m3 t3 s3 d3 : Nat)=>
 k 18446744073709551615 m3 t3 s3 d3) fun J4=>
 force (land (shiftRight a1 28) 131071) fun v5=>
 loopN 4 (fun (_ _ _ _ _ : Nat) => false) (fun L8 (p6 m7 t7 s7 d7 : Nat)=>
 ifB (ble (succ (xor p6 9223372036854775808)) (xor v5 9223372036854775808)) (
 okB (ble (succ p6) (land (shiftRight a1 28) 131071))<|
 okB (beq (land (shiftRight d7 (shiftRight (add (land a1 268435455) (mul p6 64)) 6)) 1) 0)<|
 ifB (beq a2 (land (shiftRight m7 (add (land a1 268435455) (mul p6 64))) 18446744073709551615)) (
 k p6 m7 t7 s7 d7)<|
 false)<|
 J4 m7 t7 s7 d7) 0 m t s d
def e111 : FunE := ⟨[.sli ([.int .i64]), .one (.int .i64)], [.one (.int .i64)], wrapF 2 1 sf111⟩
def i111 : FI := ⟨19, [], [4, 5, 7, 8, 9, 16], [], []⟩
def a111 : An := (.sq .reg (.sj [] (.sq .reg (.bl (.lp [(8, .sh (.one (.int .i64)))] 4 (.sq .reg (.sq (.cd .skip .ex) (.sq (.bl (.sq .reg (.sq .reg (.cd (.sq .reg .ret) .dead)))) .dead)))))) (.sq .reg .ret)))
theorem q111 : AllN 2 fun l => ∀ m t s d k, R.denF i111 a111 (bodyOf Tryz.f111) Tryz.f111.results.toList e111.ps e111.rs l ⟨m, t, s, d⟩ k = wrapF 2 1 sf111 l ⟨m, t, s, d⟩ k := by
  intro x0 x1 m t s d k
  kernel_rfl
theorem ok111 : FunOK Tryz.prog 111 e111 := fun_ok facts mixed (I := i111) FnsOK.nil Tryz.func111 (by kernel_rfl) (by kernel_rfl) (by kernel_rfl) (an := a111) (by kernel_rfl) (by kernel_rfl) q111
def sf77 : FT 2 1 := fun a1 a2 m t s d k=>
 sf111 a1 a2 m t s d fun r3 m4 t4 s4 d4=>
 force (ifB (ifB (ble (succ (xor r3 9223372036854775808)) 9223372036854775808) false true) 1 0) fun v5=>
 k v5 m4 t4 s4 d4
def e77 : FunE := ⟨[.sli ([.int .i64]), .one (.int .i64)], [.one .bool], wrapF 2 1 sf77⟩
def i77 : FI := ⟨9, [], [4], [(111, e111)], []⟩
def a77 : An := (.sq .reg (.sq .reg .ret))
theorem q77 : AllN 2 fun l => ∀ m t s d k, R.denF i77 a77 (bodyOf Tryz.f77) Tryz.f77.results.toList e77.ps e77.rs l ⟨m, t, s, d⟩ k = wrapF 2 1 sf77 l ⟨m, t, s, d⟩ k := by
  intro x0 x1 m t s d k
  kernel_rfl
theorem ok77 : FunOK Tryz.prog 77 e77 := fun_ok facts mixed (I := i77) (FnsOK.cons ok111 FnsOK.nil) Tryz.func77 (by kernel_rfl) (by kernel_rfl) (by kernel_rfl) (an := a77) (by kernel_rfl) (by kernel_rfl) q77
def sf78 : FT 3 1 := fun a1 a2 a3 m t s d k=>
 okB (ifB (ifB (ble (succ a1) a2) false true) (ifB (ble (succ a1) a2) false true) true)<|
 force (ifB (ifB (ifB (ble (succ a1) a2) false true) (ifB (ble (succ a3) a1) false true) false) 1 0) fun v4=>
 k v4 m t s d
def e78 : FunE := ⟨[.one (.int .u64), .one (.int .u64), .one (.int .u64)], [.one .bool], wrapF 3 1 sf78⟩
def i78 : FI := ⟨15, [], [6, 10], [], []⟩
def a78 : An := (.sq .reg (.sq .reg .ret))
theorem q78 : AllN 3 fun l => ∀ m t s d k, R.denF i78 a78 (bodyOf Tryz.f78) Tryz.f78.results.toList e78.ps e78.rs l ⟨m, t, s, d⟩ k = wrapF 3 1 sf78 l ⟨m, t, s, d⟩ k := by
  intro x0 x1 x2 m t s d k
  kernel_rfl
theorem ok78 : FunOK Tryz.prog 78 e78 := fun_ok facts mixed (I := i78) FnsOK.nil Tryz.func78 (by kernel_rfl) (by kernel_rfl) (by kernel_rfl) (an := a78) (by kernel_rfl) (by kernel_rfl) q78
def sf42 : FT 1 1 := fun a1 m t s d k=>
 force a1 fun v2=>
 join (fun (p3 p4 m5 t5 s5 d5 : Nat)=>
 force (land (shiftRight p3 0) 18446744073709551615) fun v7=>
 sf76 v7 m5 t5 s5 d5 fun r8 m9 t9 s9 d9=>
 join (fun (r10 m11 t11 s11 d11 : Nat)=>
 okB (ifB (beq r8 1) (beq r8 1) true)<|
 join (fun (r13 m14 t14 s14 d14 : Nat)=>
 okB (ifB (ifB (beq r8 1) (ifB (beq r10 1) false true) false) (ifB (beq r8 1) (ifB (beq r10 1) false true) false) true)<|
 okB (ifB (ifB (ifB (beq r8 1) (ifB (beq r10 1) false true) false) (beq r13 1) false) (ifB (ifB (beq r8 1) (ifB (beq r10 1) false true) false) (beq r13 1) false) true)<|
 okB (ifB (ifB (ifB (ifB (beq r8 1) (ifB (beq r10 1) false true) false) (beq r13 1) false) (ifB (ble (succ (xor (land (shiftRight p4 28) 131071) 9223372036854775808)) 9223372036854775809) false true) false) (ifB (ifB (ifB (beq r8 1) (ifB (beq r10 1) false true) false) (beq r13 1) false) (ifB (ble (succ (xor (land (shiftRight p4 28) 131071) 9223372036854775808)) 9223372036854775809) false true) false) true)<|
 join (fun (r16 m17 t17 s17 d17 : Nat)=>
 okB (ifB (ifB (ifB (ifB (ifB (beq r8 1) (ifB (beq r10 1) false true) false) (beq r13 1) false) (ifB (ble (succ (xor (land (shiftRight p4 28) 131071) 9223372036854775808)) 9223372036854775809) false true) false) (ifB (ble 9223372036854775817 (xor (land (shiftRight p4 28) 131071) 9223372036854775808)) false true) false) (ifB (ifB (ifB (ifB (beq r8 1) (ifB (beq r10 1) false true) false) (beq r13 1) false) (ifB (ble (succ (xor (land (shiftRight p4 28) 131071) 9223372036854775808)) 9223372036854775809) false true) false) (ifB (ble 9223372036854775817 (xor (land (shiftRight p4 28) 131071) 9223372036854775808)) false true) false) true)<|
 join (fun (r19 m20 t20 s20 d20 : Nat)=>
 okB (ifB (ifB (ifB (ifB (ifB (ifB (beq r8 1) (ifB (beq r10 1) false true) false) (beq r13 1) false) (ifB (ble (succ (xor (land (shiftRight p4 28) 131071) 9223372036854775808)) 9223372036854775809) false true) false) (ifB (ble 9223372036854775817 (xor (land (shiftRight p4 28) 131071) 9223372036854775808)) false true) false) (beq r16 1) false) (ifB (ifB (ifB (ifB (ifB (beq r8 1) (ifB (beq r10 1) false true) false) (beq r13 1) false) (ifB (ble (succ (xor (land (shiftRight p4 28) 131071) 9223372036854775808)) 9223372036854775809) false true) false) (ifB (ble 9223372036854775817 (xor (land (shiftRight p4 28) 131071) 9223372036854775808)) false true) false) (beq r16 1) false) true)<|
 okB (ifB (ifB (ifB (ifB (ifB (ifB (ifB (beq r8 1) (ifB (beq r10 1) false true) false) (beq r13 1) false) (ifB (ble (succ (xor (land (shiftRight p4 28) 131071) 9223372036854775808)) 9223372036854775809) false true) false) (ifB (ble 9223372036854775817 (xor (land (shiftRight p4 28) 131071) 9223372036854775808)) false true) false) (beq r16 1) false) (beq r19 1) false) (ifB (ifB (ifB (ifB (ifB (ifB (beq r8 1) (ifB (beq r10 1) false true) false) (beq r13 1) false) (ifB (ble (succ (xor (land (shiftRight p4 28) 131071) 9223372036854775808)) 9223372036854775809) false true) false) (ifB (ble 9223372036854775817 (xor (land (shiftRight p4 28) 131071) 9223372036854775808)) false true) false) (beq r16 1) false) (beq r19 1) false) true)<|
 okB (ifB (ifB (ifB (ifB (ifB (ifB (ifB (ifB (beq r8 1) (ifB (beq r10 1) false true) false) (beq r13 1) false) (ifB (ble (succ (xor (land (shiftRight p4 28) 131071) 9223372036854775808)) 9223372036854775809) false true) false) (ifB (ble 9223372036854775817 (xor (land (shiftRight p4 28) 131071) 9223372036854775808)) false true) false) (beq r16 1) false) (beq r19 1) false) (ifB (ble (succ (xor (land (shiftRight p3 576) 18446744073709551615) 9223372036854775808)) 9223372036854775809) false true) false) (ifB (ifB (ifB (ifB (ifB (ifB (ifB (beq r8 1) (ifB (beq r10 1) false true) false) (beq r13 1) false) (ifB (ble (succ (xor (land (shiftRight p4 28) 131071) 9223372036854775808)) 9223372036854775809) false true) false) (ifB (ble 9223372036854775817 (xor (land (shiftRight p4 28) 131071) 9223372036854775808)) false true) false) (beq r16 1) false) (beq r19 1) false) (ifB (ble (succ (xor (land (shiftRight p3 576) 18446744073709551615) 9223372036854775808)) 9223372036854775809) false true) false) true)<|
 force (ifB (ifB (ifB (ifB (ifB (ifB (ifB (ifB (ifB (beq r8 1) (ifB (beq r10 1) false true) false) (beq r13 1) false) (ifB (ble (succ (xor (land (shiftRight p4 28) 131071) 9223372036854775808)) 9223372036854775809) false true) false) (ifB (ble 9223372036854775817 (xor (land (shiftRight p4 28) 131071) 9223372036854775808)) false true) false) (beq r16 1) false) (beq r19 1) false) (ifB (ble (succ (xor (land (shiftRight p3 576) 18446744073709551615) 9223372036854775808)) 9223372036854775809) false true) false) (ifB (ble 9223372036854775813 (xor (land (shiftRight p3 576) 18446744073709551615) 9223372036854775808)) false true) false) 1 0) fun v22=>
 k v22 m20 t20 s20 d20) fun J21=>
 ifB (ifB (ifB (ifB (ifB (ifB (beq r8 1) (ifB (beq r10 1) false true) false) (beq r13 1) false) (ifB (ble (succ (xor (land (shiftRight p4 28) 131071) 9223372036854775808)) 9223372036854775809) false true) false) (ifB (ble 9223372036854775817 (xor (land (shiftRight p4 28) 131071) 9223372036854775808)) false true) false) (beq r16 1) false) (
 ifB (beq 79 79) (
 force (land (shiftRight p3 512) 18446744073709551615) fun v23=>
 force (land (shiftRight p3 448) 18446744073709551615) fun v24=>
 sf78 v23 v24 100000 m17 t17 s17 d17 fun r25 m26 t26 s26 d26=>
 J21 r25 m26 t26 s26 d26)<|
 false)<|
 J21 0 m17 t17 s17 d17) fun J18=>
 ifB (ifB (ifB (ifB (ifB (beq r8 1) (ifB (beq r10 1) false true) false) (beq r13 1) false) (ifB (ble (succ (xor (land (shiftRight p4 28) 131071) 9223372036854775808)) 9223372036854775809) false true) false) (ifB (ble 9223372036854775817 (xor (land (shiftRight p4 28) 131071) 9223372036854775808)) false true) false) (
 ifB (beq 79 79) (
 force (land (shiftRight p3 448) 18446744073709551615) fun v27=>
 sf78 v27 2 1000 m14 t14 s14 d14 fun r28 m29 t29 s29 d29=>
 J18 r28 m29 t29 s29 d29)<|
 false)<|
 J18 0 m14 t14 s14 d14) fun J15=>
 ifB (ifB (beq r8 1) (ifB (beq r10 1) false true) false) (
 sf40 0 m11 t11 s11 d11 fun r30 m31 t31 s31 d31=>
 J15 r30 m31 t31 s31 d31)<|
 J15 0 m11 t11 s11 d11) fun J12=>
 ifB (beq r8 1) (
 force (land (shiftRight p3 64) 340282366920938463463374607431768211455) fun v32=>
 sf57 v32 m9 t9 s9 d9 fun r33 m34 t34 s34 d34=>
 J12 r33 m34 t34 s34 d34)<|
 J12 0 m9 t9 s9 d9) fun J6=>
 force (land (shiftRight v2 384) 18446744073709551615) fun v35=>
 force (land (shiftRight v35 28) 131071) fun v36=>
 loopN 5 (fun (_ _ _ _ _ _ _ : Nat) => false) (fun L41 (p37 p38 p39 m40 t40 s40 d40 : Nat)=>
 ifB (ble (succ (xor p39 9223372036854775808)) (xor v36 9223372036854775808)) (
 okB (ble (succ p39) (land (shiftRight v35 28) 131071))<|
 okB (beq (land (shiftRight d40 (shiftRight (add (land v35 268435455) (mul p39 256)) 6)) 15) 0)<|
 force (land (shiftRight m40 (add (land v35 268435455) (mul p39 256))) (mask 4)) fun v42=>
 force (land (shiftRight v42 0) 18446744073709551615) fun v43=>
 sf76 v43 m40 t40 s40 d40 fun r44 m45 t45 s45 d45=>
 join (fun (r46 m47 t47 s47 d47 : Nat)=>
 okB (ifB (ifB (beq r44 1) false true) true (ifB (ifB (beq r44 1) false true) false true))<|
 join (fun (r49 m50 t50 s50 d50 : Nat)=>
 okB (ifB (ifB (ifB (beq r44 1) false true) true (beq r46 1)) true (ifB (ifB (ifB (beq r44 1) false true) true (beq r46 1)) false true))<|
 join (fun (r52 m53 t53 s53 d53 : Nat)=>
 okB (ifB (ifB (ifB (ifB (beq r44 1) false true) true (beq r46 1)) true (ifB (beq r49 1) false true)) true (ifB (ifB (ifB (ifB (beq r44 1) false true) true (beq r46 1)) true (ifB (beq r49 1) false true)) false true))<|
 ifB (ifB (ifB (ifB (ifB (beq r44 1) false true) true (beq r46 1)) true (ifB (beq r49 1) false true)) true (beq r52 1)) (
 false)<|
 force (land (shiftRight v42 0) 18446744073709551615) fun v55=>
 join (fun (r56 m57 t57 s57 d57 : Nat)=>
 force (mod (add p39 1) 18446744073709551616) fun v59=>
 L41 p37 r56 v59 m57 t57 s57 d57) fun J58=>
 appR 1 p38 1 v55 m53 t53 s53 d53 J58) fun J54=>
 ifB (ifB (ifB (ifB (ifB (beq r44 1) false true) true (beq r46 1)) true (ifB (beq r49 1) false true)) false true) (
 force (land (shiftRight v42 0) 18446744073709551615) fun v60=>
 sf77 p38 v60 m50 t50 s50 d50 fun r61 m62 t62 s62 d62=>
 J54 r61 m62 t62 s62 d62)<|
 J54 0 m50 t50 s50 d50) fun J51=>
 ifB (ifB (ifB (ifB (beq r44 1) false true) true (beq r46 1)) false true) (
 sf40 0 m47 t47 s47 d47 fun r63 m64 t64 s64 d64=>
 J51 r63 m64 t64 s64 d64)<|
 J51 0 m47 t47 s47 d47) fun J48=>
 ifB (ifB (ifB (beq r44 1) false true) false true) (
 force (land (shiftRight v42 64) 340282366920938463463374607431768211455) fun v65=>
 sf57 v65 m45 t45 s45 d45 fun r66 m67 t67 s67 d67=>
 J48 r66 m67 t67 s67 d67)<|
 J48 0 m45 t45 s45 d45)<|
 J6 p37 p38 m40 t40 s40 d40) v2 0 0 m t s d
def e42 : FunE := ⟨[.agg (lay 76)], [.one .bool], wrapF 1 1 sf42⟩
def i42 : FI := ⟨89, [1, 5, 38], [1, 2, 3, 5, 6, 8, 9, 10, 11, 18, 23, 29, 34, 44, 50, 55, 60, 65, 71, 79, 84], [(40, e40), (57, e57), (76, e76), (77, e77), (78, e78)], [(69, [78]), (77, [78])]⟩
def a42 : An := (.sq .reg (.sq .reg (.sj [(1, .loc (lay 76)), (3, .sh (.sli ([.int .i64])))] (.sq .reg (.bl (.lp [(1, .loc (lay 76)), (3, .sh (.sli ([.int .i64]))), (10, .sh (.one (.int .i64)))] 5 (.sq .reg (.sq (.cd .skip .ex) (.sq (.bl (.sq .reg (.sq (.sq .reg (.cd .dead .skip)) .reg))) .reg)))))) (.sq .reg (.sq .reg .ret)))))
theorem q42 : AllN 1 fun l => ∀ m t s d k, R.denF i42 a42 (bodyOf Tryz.f42) Tryz.f42.results.toList e42.ps e42.rs l ⟨m, t, s, d⟩ k = wrapF 1 1 sf42 l ⟨m, t, s, d⟩ k := by
  intro x0 m t s d k
  kernel_rfl
theorem ok42 : FunOK Tryz.prog 42 e42 := fun_ok facts mixed (I := i42) (FnsOK.cons ok40 (FnsOK.cons ok57 (FnsOK.cons ok76 (FnsOK.cons ok77 (FnsOK.cons ok78 FnsOK.nil))))) Tryz.func42 (by kernel_rfl) (by kernel_rfl) (by kernel_rfl) (an := a42) (by kernel_rfl) (by kernel_rfl) q42
def sf18 : FT 1 1 := fun a1 m t s d k=>
 force a1 fun v2=>
 okB (ifB (ble (succ (xor (land (shiftRight (land (shiftRight v2 0) 18446744073709551615) 28) 131071) 9223372036854775808)) 9223372036854775809) true (ifB (ble (succ (xor (land (shiftRight (land (shiftRight v2 0) 18446744073709551615) 28) 131071) 9223372036854775808)) 9223372036854775809) false true))<|
 okB (ifB (ifB (ble (succ (xor (land (shiftRight (land (shiftRight v2 0) 18446744073709551615) 28) 131071) 9223372036854775808)) 9223372036854775809) true (ble 9223372036854775821 (xor (land (shiftRight (land (shiftRight v2 0) 18446744073709551615) 28) 131071) 9223372036854775808))) true (ifB (ifB (ble (succ (xor (land (shiftRight (land (shiftRight v2 0) 18446744073709551615) 28) 131071) 9223372036854775808)) 9223372036854775809) true (ble 9223372036854775821 (xor (land (shiftRight (land (shiftRight v2 0) 18446744073709551615) 28) 131071) 9223372036854775808))) false true))<|
 okB (ifB (ifB (ifB (ble (succ (xor (land (shiftRight (land (shiftRight v2 0) 18446744073709551615) 28) 131071) 9223372036854775808)) 9223372036854775809) true (ble 9223372036854775821 (xor (land (shiftRight (land (shiftRight v2 0) 18446744073709551615) 28) 131071) 9223372036854775808))) true (ble (succ (xor (land (shiftRight v2 64) 18446744073709551615) 9223372036854775808)) 9223372036854775809)) true (ifB (ifB (ifB (ble (succ (xor (land (shiftRight (land (shiftRight v2 0) 18446744073709551615) 28) 131071) 9223372036854775808)) 9223372036854775809) true (ble 9223372036854775821 (xor (land (shiftRight (land (shiftRight v2 0) 18446744073709551615) 28) 131071) 9223372036854775808))) true (ble (succ (xor (land (shiftRight v2 64) 18446744073709551615) 9223372036854775808)) 9223372036854775809)) false true))<|
 okB (ifB (ifB (ifB (ifB (ble (succ (xor (land (shiftRight (land (shiftRight v2 0) 18446744073709551615) 28) 131071) 9223372036854775808)) 9223372036854775809) true (ble 9223372036854775821 (xor (land (shiftRight (land (shiftRight v2 0) 18446744073709551615) 28) 131071) 9223372036854775808))) true (ble (succ (xor (land (shiftRight v2 64) 18446744073709551615) 9223372036854775808)) 9223372036854775809)) true (ble (succ (xor (ifB (ble 9223372036854775813 (xor (land (shiftRight (land (shiftRight v2 0) 18446744073709551615) 28) 131071) 9223372036854775808)) 4 (land (shiftRight (land (shiftRight v2 0) 18446744073709551615) 28) 131071)) 9223372036854775808)) (xor (land (shiftRight v2 64) 18446744073709551615) 9223372036854775808))) true (ifB (ifB (ifB (ifB (ble (succ (xor (land (shiftRight (land (shiftRight v2 0) 18446744073709551615) 28) 131071) 9223372036854775808)) 9223372036854775809) true (ble 9223372036854775821 (xor (land (shiftRight (land (shiftRight v2 0) 18446744073709551615) 28) 131071) 9223372036854775808))) true (ble (succ (xor (land (shiftRight v2 64) 18446744073709551615) 9223372036854775808)) 9223372036854775809)) true (ble (succ (xor (ifB (ble 9223372036854775813 (xor (land (shiftRight (land (shiftRight v2 0) 18446744073709551615) 28) 131071) 9223372036854775808)) 4 (land (shiftRight (land (shiftRight v2 0) 18446744073709551615) 28) 131071)) 9223372036854775808)) (xor (land (shiftRight v2 64) 18446744073709551615) 9223372036854775808))) false true))<|
 okB (ifB (ifB (ifB (ifB (ifB (ble (succ (xor (land (shiftRight (land (shiftRight v2 0) 18446744073709551615) 28) 131071) 9223372036854775808)) 9223372036854775809) true (ble 9223372036854775821 (xor (land (shiftRight (land (shiftRight v2 0) 18446744073709551615) 28) 131071) 9223372036854775808))) true (ble (succ (xor (land (shiftRight v2 64) 18446744073709551615) 9223372036854775808)) 9223372036854775809)) true (ble (succ (xor (ifB (ble 9223372036854775813 (xor (land (shiftRight (land (shiftRight v2 0) 18446744073709551615) 28) 131071) 9223372036854775808)) 4 (land (shiftRight (land (shiftRight v2 0) 18446744073709551615) 28) 131071)) 9223372036854775808)) (xor (land (shiftRight v2 64) 18446744073709551615) 9223372036854775808))) true (ble (succ (land (shiftRight v2 384) 18446744073709551615)) 1)) true (ifB (ifB (ifB (ifB (ifB (ble (succ (xor (land (shiftRight (land (shiftRight v2 0) 18446744073709551615) 28) 131071) 9223372036854775808)) 9223372036854775809) true (ble 9223372036854775821 (xor (land (shiftRight (land (shiftRight v2 0) 18446744073709551615) 28) 131071) 9223372036854775808))) true (ble (succ (xor (land (shiftRight v2 64) 18446744073709551615) 9223372036854775808)) 9223372036854775809)) true (ble (succ (xor (ifB (ble 9223372036854775813 (xor (land (shiftRight (land (shiftRight v2 0) 18446744073709551615) 28) 131071) 9223372036854775808)) 4 (land (shiftRight (land (shiftRight v2 0) 18446744073709551615) 28) 131071)) 9223372036854775808)) (xor (land (shiftRight v2 64) 18446744073709551615) 9223372036854775808))) true (ble (succ (land (shiftRight v2 384) 18446744073709551615)) 1)) false true))<|
 okB (ifB (ifB (ifB (ifB (ifB (ifB (ble (succ (xor (land (shiftRight (land (shiftRight v2 0) 18446744073709551615) 28) 131071) 9223372036854775808)) 9223372036854775809) true (ble 9223372036854775821 (xor (land (shiftRight (land (shiftRight v2 0) 18446744073709551615) 28) 131071) 9223372036854775808))) true (ble (succ (xor (land (shiftRight v2 64) 18446744073709551615) 9223372036854775808)) 9223372036854775809)) true (ble (succ (xor (ifB (ble 9223372036854775813 (xor (land (shiftRight (land (shiftRight v2 0) 18446744073709551615) 28) 131071) 9223372036854775808)) 4 (land (shiftRight (land (shiftRight v2 0) 18446744073709551615) 28) 131071)) 9223372036854775808)) (xor (land (shiftRight v2 64) 18446744073709551615) 9223372036854775808))) true (ble (succ (land (shiftRight v2 384) 18446744073709551615)) 1)) true (ble 1000001 (land (shiftRight v2 384) 18446744073709551615))) true (ifB (ifB (ifB (ifB (ifB (ifB (ble (succ (xor (land (shiftRight (land (shiftRight v2 0) 18446744073709551615) 28) 131071) 9223372036854775808)) 9223372036854775809) true (ble 9223372036854775821 (xor (land (shiftRight (land (shiftRight v2 0) 18446744073709551615) 28) 131071) 9223372036854775808))) true (ble (succ (xor (land (shiftRight v2 64) 18446744073709551615) 9223372036854775808)) 9223372036854775809)) true (ble (succ (xor (ifB (ble 9223372036854775813 (xor (land (shiftRight (land (shiftRight v2 0) 18446744073709551615) 28) 131071) 9223372036854775808)) 4 (land (shiftRight (land (shiftRight v2 0) 18446744073709551615) 28) 131071)) 9223372036854775808)) (xor (land (shiftRight v2 64) 18446744073709551615) 9223372036854775808))) true (ble (succ (land (shiftRight v2 384) 18446744073709551615)) 1)) true (ble 1000001 (land (shiftRight v2 384) 18446744073709551615))) false true))<|
 okB (ifB (ifB (ifB (ifB (ifB (ifB (ifB (ble (succ (xor (land (shiftRight (land (shiftRight v2 0) 18446744073709551615) 28) 131071) 9223372036854775808)) 9223372036854775809) true (ble 9223372036854775821 (xor (land (shiftRight (land (shiftRight v2 0) 18446744073709551615) 28) 131071) 9223372036854775808))) true (ble (succ (xor (land (shiftRight v2 64) 18446744073709551615) 9223372036854775808)) 9223372036854775809)) true (ble (succ (xor (ifB (ble 9223372036854775813 (xor (land (shiftRight (land (shiftRight v2 0) 18446744073709551615) 28) 131071) 9223372036854775808)) 4 (land (shiftRight (land (shiftRight v2 0) 18446744073709551615) 28) 131071)) 9223372036854775808)) (xor (land (shiftRight v2 64) 18446744073709551615) 9223372036854775808))) true (ble (succ (land (shiftRight v2 384) 18446744073709551615)) 1)) true (ble 1000001 (land (shiftRight v2 384) 18446744073709551615))) true (ble (succ (xor (land (shiftRight v2 448) 18446744073709551615) 9223372036854775808)) 9223372036854775809)) true (ifB (ifB (ifB (ifB (ifB (ifB (ifB (ble (succ (xor (land (shiftRight (land (shiftRight v2 0) 18446744073709551615) 28) 131071) 9223372036854775808)) 9223372036854775809) true (ble 9223372036854775821 (xor (land (shiftRight (land (shiftRight v2 0) 18446744073709551615) 28) 131071) 9223372036854775808))) true (ble (succ (xor (land (shiftRight v2 64) 18446744073709551615) 9223372036854775808)) 9223372036854775809)) true (ble (succ (xor (ifB (ble 9223372036854775813 (xor (land (shiftRight (land (shiftRight v2 0) 18446744073709551615) 28) 131071) 9223372036854775808)) 4 (land (shiftRight (land (shiftRight v2 0) 18446744073709551615) 28) 131071)) 9223372036854775808)) (xor (land (shiftRight v2 64) 18446744073709551615) 9223372036854775808))) true (ble (succ (land (shiftRight v2 384) 18446744073709551615)) 1)) true (ble 1000001 (land (shiftRight v2 384) 18446744073709551615))) true (ble (succ (xor (land (shiftRight v2 448) 18446744073709551615) 9223372036854775808)) 9223372036854775809)) false true))<|
 ifB (ifB (ifB (ifB (ifB (ifB (ifB (ifB (ble (succ (xor (land (shiftRight (land (shiftRight v2 0) 18446744073709551615) 28) 131071) 9223372036854775808)) 9223372036854775809) true (ble 9223372036854775821 (xor (land (shiftRight (land (shiftRight v2 0) 18446744073709551615) 28) 131071) 9223372036854775808))) true (ble (succ (xor (land (shiftRight v2 64) 18446744073709551615) 9223372036854775808)) 9223372036854775809)) true (ble (succ (xor (ifB (ble 9223372036854775813 (xor (land (shiftRight (land (shiftRight v2 0) 18446744073709551615) 28) 131071) 9223372036854775808)) 4 (land (shiftRight (land (shiftRight v2 0) 18446744073709551615) 28) 131071)) 9223372036854775808)) (xor (land (shiftRight v2 64) 18446744073709551615) 9223372036854775808))) true (ble (succ (land (shiftRight v2 384) 18446744073709551615)) 1)) true (ble 1000001 (land (shiftRight v2 384) 18446744073709551615))) true (ble (succ (xor (land (shiftRight v2 448) 18446744073709551615) 9223372036854775808)) 9223372036854775809)) true (ble 9223372036854776065 (xor (land (shiftRight v2 448) 18446744073709551615) 9223372036854775808))) (
 false)<|
 join (fun (p3 m4 t4 s4 d4 : Nat)=>
 join (fun (m6 t6 s6 d6 : Nat)=>
 force (ifB true 1 0) fun v8=>
 k v8 m6 t6 s6 d6) fun J7=>
 force (land (shiftRight (land (shiftRight p3 0) 18446744073709551615) 28) 131071) fun v9=>
 loopN 6 (fun (_ _ _ _ _ : Nat) => false) (fun L12 (p10 m11 t11 s11 d11 : Nat)=>
 ifB (ble (succ (xor p10 9223372036854775808)) (xor v9 9223372036854775808)) (
 force p3 fun v13=>
 force (mod (add p10 1) 18446744073709551616) fun v14=>
 sf21 v13 v14 0 m11 t11 s11 d11 fun r15 m16 t16 s16 d16=>
 sf42 r15 m16 t16 s16 d16 fun r17 m18 t18 s18 d18=>
 ifB (ifB (beq r17 1) false true) (
 false)<|
 force (mod (add p10 1) 18446744073709551616) fun v19=>
 L12 v19 m18 t18 s18 d18)<|
 J7 m11 t11 s11 d11) 0 m4 t4 s4 d4) fun J5=>
 force (land (shiftRight v2 0) 18446744073709551615) fun v20=>
 force (land (shiftRight v20 28) 131071) fun v21=>
 loopN 6 (fun (_ _ _ _ _ _ : Nat) => false) (fun L25 (p22 p23 m24 t24 s24 d24 : Nat)=>
 ifB (ble (succ (xor p23 9223372036854775808)) (xor v21 9223372036854775808)) (
 okB (ble (succ p23) (land (shiftRight v20 28) 131071))<|
 okB (beq (land (shiftRight d24 (shiftRight (add (land v20 268435455) (mul p23 256)) 6)) 15) 0)<|
 force (land (shiftRight m24 (add (land v20 268435455) (mul p23 256))) (mask 4)) fun v26=>
 sf40 0 m24 t24 s24 d24 fun r27 m28 t28 s28 d28=>
 force (land (shiftRight v26 192) 18446744073709551615) fun v29=>
 join (fun (r30 m31 t31 s31 d31 : Nat)=>
 okB (ifB (ifB (ifB (ifB (beq r27 1) false true) false true) (beq v29 1) false) (ifB (ifB (beq r30 1) false true) true (ifB (ifB (ifB (ifB (beq r27 1) false true) false true) (beq v29 1) false) (ifB (ifB (beq r30 1) false true) false true) false)) true)<|
 okB (ifB (ifB (ifB (beq r27 1) false true) false true) (ifB (beq v29 1) (ifB (ifB (ifB (beq r27 1) false true) false true) (beq v29 1) false) true) true)<|
 okB (ifB (ifB (beq r27 1) false true) true (ifB (ifB (beq r27 1) false true) false true))<|
 ifB (ifB (ifB (beq r27 1) false true) true (ifB (beq v29 1) (ifB (ifB (beq r30 1) false true) true (ble (succ (xor p23 9223372036854775808)) (xor (land (shiftRight p22 64) 18446744073709551615) 9223372036854775808))) false)) (
 false)<|
 force (mod (add p23 1) 18446744073709551616) fun v33=>
 L25 p22 v33 m31 t31 s31 d31) fun J32=>
 ifB (ifB (ifB (ifB (beq r27 1) false true) false true) (beq v29 1) false) (
 false)<|
 J32 0 m28 t28 s28 d28)<|
 J5 p22 m24 t24 s24 d24) v2 0 m t s d
def e18 : FunE := ⟨[.agg (lay 31)], [.one .bool], wrapF 1 1 sf18⟩
def i18 : FI := ⟨92, [1, 4], [1, 2, 3, 4, 5, 10, 16, 21, 30, 35, 40, 45, 49, 51, 52, 53, 54, 62, 65, 70, 77, 81, 82, 83, 90], [(21, e21), (40, e40), (41, ⟨[.agg (lay 26)], [.one .bool], fun _ _ _ => false⟩), (42, e42)], []⟩
def a18 : An := (.sq .reg (.sc (.sq (.sq .reg (.cd .dead .skip)) (.sj [(1, .loc (lay 31))] (.sq .reg (.bl (.lp [(1, .loc (lay 31)), (53, .sh (.one (.int .i64)))] 6 (.sq .reg (.sq (.cd .skip .ex) (.sq (.bl (.sq .reg (.sq .reg (.cd .dead .skip)))) .reg)))))) (.sj [] (.sq .reg (.bl (.lp [(82, .sh (.one (.int .i64)))] 6 (.sq .reg (.sq (.cd .skip .ex) (.sq (.bl (.sq .reg (.sq .reg (.cd .dead .skip)))) .reg)))))) (.sq (.sq .reg .ret) .dead))))))
theorem q18 : AllN 1 fun l => ∀ m t s d k, R.denF i18 a18 (bodyOf Tryz.f18) Tryz.f18.results.toList e18.ps e18.rs l ⟨m, t, s, d⟩ k = wrapF 1 1 sf18 l ⟨m, t, s, d⟩ k := by
  intro x0 m t s d k
  kernel_rfl
theorem ok18 : FunOK Tryz.prog 18 e18 := fun_ok facts mixed (I := i18) (FnsOK.cons ok21 (FnsOK.cons ok40 (FnsOK.cons FunOK.dead (FnsOK.cons ok42 FnsOK.nil)))) Tryz.func18 (by kernel_rfl) (by kernel_rfl) (by kernel_rfl) (an := a18) (by kernel_rfl) (by kernel_rfl) q18
def sf19 : FT 1 1 := fun a1 m t s d k=>
 ifB (beq a1 0) (
 false)<|
 okB (beq (land (shiftRight d (shiftRight (land a1 268435455) 6)) (sub (shiftLeft 1 (mul (land (shiftRight a1 28) 131071) 4)) 1)) 0)<|
 join (fun (r2 m3 t3 s3 d3 : Nat)=>
 k r2 m3 t3 s3 d3) fun J4=>
 appR 4 (add (shiftLeft t 6) 4611686018427387904) (land (shiftRight a1 28) 131071) (land (shiftRight m (land a1 268435455)) (mask (mul (land (shiftRight a1 28) 131071) 4))) m t s d J4
def e19 : FunE := ⟨[.sli (lay 28)], [.sli (lay 28)], wrapF 1 1 sf19⟩
def i19 : FI := ⟨8, [], [2, 4], [], []⟩
def a19 : An := (.sq .reg (.sq (.sq .reg (.cd .dead .skip)) (.sq .reg .ret)))
theorem q19 : AllN 1 fun l => ∀ m t s d k, R.denF i19 a19 (bodyOf Tryz.f19) Tryz.f19.results.toList e19.ps e19.rs l ⟨m, t, s, d⟩ k = wrapF 1 1 sf19 l ⟨m, t, s, d⟩ k := by
  intro x0 m t s d k
  kernel_rfl
theorem ok19 : FunOK Tryz.prog 19 e19 := fun_ok facts mixed (I := i19) FnsOK.nil Tryz.func19 (by kernel_rfl) (by kernel_rfl) (by kernel_rfl) (an := a19) (by kernel_rfl) (by kernel_rfl) q19
def sf43 : FT 1 1 := fun a1 m t s d k=>
 ifB (beq a1 0) (
 false)<|
 okB (beq (land (shiftRight d (shiftRight (land a1 268435455) 6)) (sub (shiftLeft 1 (mul (land (shiftRight a1 28) 131071) 4)) 1)) 0)<|
 join (fun (r2 m3 t3 s3 d3 : Nat)=>
 k r2 m3 t3 s3 d3) fun J4=>
 appR 4 (add (shiftLeft t 6) 4611686018427387904) (land (shiftRight a1 28) 131071) (land (shiftRight m (land a1 268435455)) (mask (mul (land (shiftRight a1 28) 131071) 4))) m t s d J4
def e43 : FunE := ⟨[.sli (lay 114)], [.sli (lay 114)], wrapF 1 1 sf43⟩
def i43 : FI := ⟨8, [], [2, 4], [], []⟩
def a43 : An := (.sq .reg (.sq (.sq .reg (.cd .dead .skip)) (.sq .reg .ret)))
theorem q43 : AllN 1 fun l => ∀ m t s d k, R.denF i43 a43 (bodyOf Tryz.f43) Tryz.f43.results.toList e43.ps e43.rs l ⟨m, t, s, d⟩ k = wrapF 1 1 sf43 l ⟨m, t, s, d⟩ k := by
  intro x0 m t s d k
  kernel_rfl
theorem ok43 : FunOK Tryz.prog 43 e43 := fun_ok facts mixed (I := i43) FnsOK.nil Tryz.func43 (by kernel_rfl) (by kernel_rfl) (by kernel_rfl) (an := a43) (by kernel_rfl) (by kernel_rfl) q43
def sf44 : FT 0 1 := fun  m t s d k=>
 force (shiftLeft t 6) fun v1=>
 force (add t 167) fun t2=>
 okB (ble (succ t2) 4194304)<|
 force (xor m (xor (shiftLeft 0 (shiftLeft t 6)) (mod (add 0 t) 2305843009213693951))) fun m3=>
 k v1 m3 t2 s d
def e44 : FunE := ⟨[], [.ptr (lay 108) false false], wrapF 0 1 sf44⟩
def i44 : FI := ⟨3, [], [0], [], []⟩
def a44 : An := (.sq .reg (.sq .reg .ret))
theorem q44 : AllN 0 fun l => ∀ m t s d k, R.denF i44 a44 (bodyOf Tryz.f44) Tryz.f44.results.toList e44.ps e44.rs l ⟨m, t, s, d⟩ k = wrapF 0 1 sf44 l ⟨m, t, s, d⟩ k := by
  intro m t s d k
  kernel_rfl
theorem ok44 : FunOK Tryz.prog 44 e44 := fun_ok facts mixed (I := i44) FnsOK.nil Tryz.func44 (by kernel_rfl) (by kernel_rfl) (by kernel_rfl) (an := a44) (by kernel_rfl) (by kernel_rfl) q44
def sf79 : FT 1 1 := fun a1 m t s d k=>
 force a1 fun v2=>
 force v2 fun v3=>
 k v3 m t s d
def e79 : FunE := ⟨[.one .opq], [.agg [.opq]], wrapF 1 1 sf79⟩
def i79 : FI := ⟨5, [2], [2], [], []⟩
def a79 : An := (.sq .reg (.sq .reg .ret))
theorem q79 : AllN 1 fun l => ∀ m t s d k, R.denF i79 a79 (bodyOf Tryz.f79) Tryz.f79.results.toList e79.ps e79.rs l ⟨m, t, s, d⟩ k = wrapF 1 1 sf79 l ⟨m, t, s, d⟩ k := by
  intro x0 m t s d k
  kernel_rfl
theorem ok79 : FunOK Tryz.prog 79 e79 := fun_ok facts mixed (I := i79) FnsOK.nil Tryz.func79 (by kernel_rfl) (by kernel_rfl) (by kernel_rfl) (an := a79) (by kernel_rfl) (by kernel_rfl) q79
def sf45 : FT 1 1 := fun a1 m t s d k=>
 sf79 a1 m t s d fun r2 m3 t3 s3 d3=>
 force (shiftLeft t3 6) fun v4=>
 force (add t3 2) fun t5=>
 okB (ble (succ t5) 4194304)<|
 force (xor m3 (xor (shiftLeft r2 (shiftLeft t3 6)) (mod (add r2 t3) 2305843009213693951))) fun m6=>
 k v4 m6 t5 s3 d3
def e45 : FunE := ⟨[.one .opq], [.ptr (lay 169) false false], wrapF 1 1 sf45⟩
def i45 : FI := ⟨7, [], [2], [(79, e79)], []⟩
def a45 : An := (.sq .reg (.sq .reg .ret))
theorem q45 : AllN 1 fun l => ∀ m t s d k, R.denF i45 a45 (bodyOf Tryz.f45) Tryz.f45.results.toList e45.ps e45.rs l ⟨m, t, s, d⟩ k = wrapF 1 1 sf45 l ⟨m, t, s, d⟩ k := by
  intro x0 m t s d k
  kernel_rfl
theorem ok45 : FunOK Tryz.prog 45 e45 := fun_ok facts mixed (I := i45) (FnsOK.cons ok79 FnsOK.nil) Tryz.func45 (by kernel_rfl) (by kernel_rfl) (by kernel_rfl) (an := a45) (by kernel_rfl) (by kernel_rfl) q45
def sf46 : FT 0 1 := fun  m t s d k=>
 force (shiftLeft t 6) fun v1=>
 force (add t 165) fun t2=>
 okB (ble (succ t2) 4194304)<|
 force (xor m (xor (shiftLeft 0 (shiftLeft t 6)) (mod (add 0 t) 2305843009213693951))) fun m3=>
 k v1 m3 t2 s d
def e46 : FunE := ⟨[], [.ptr (lay 172) false false], wrapF 0 1 sf46⟩
def i46 : FI := ⟨3, [], [0], [], []⟩
def a46 : An := (.sq .reg (.sq .reg .ret))
theorem q46 : AllN 0 fun l => ∀ m t s d k, R.denF i46 a46 (bodyOf Tryz.f46) Tryz.f46.results.toList e46.ps e46.rs l ⟨m, t, s, d⟩ k = wrapF 0 1 sf46 l ⟨m, t, s, d⟩ k := by
  intro m t s d k
  kernel_rfl
theorem ok46 : FunOK Tryz.prog 46 e46 := fun_ok facts mixed (I := i46) FnsOK.nil Tryz.func46 (by kernel_rfl) (by kernel_rfl) (by kernel_rfl) (an := a46) (by kernel_rfl) (by kernel_rfl) q46
def sf47 : FT 1 2 := fun a1 m t s d k=>
 okB (ifB (ble (succ (xor a1 9223372036854775808)) 9223372036854775809) true (ifB (ble (succ (xor a1 9223372036854775808)) 9223372036854775809) false true))<|
 ifB (ifB (ble (succ (xor a1 9223372036854775808)) 9223372036854775809) true (ble 9223372036854775873 (xor a1 9223372036854775808))) (
 false)<|
 force (shiftLeft t 6) fun v2=>
 force (add t 2) fun t3=>
 okB (ble (succ t3) 4194304)<|
 force (xor m (xor (shiftLeft (xor 0 (shiftLeft a1 64)) (shiftLeft t 6)) (mod (add (xor 0 (shiftLeft a1 64)) t) 2305843009213693951))) fun m4=>
 k v2 0 m4 t3 s d
def e47 : FunE := ⟨[.one (.int .i64)], [.ptr (lay 177) false false, .one (.int .i64)], wrapF 1 2 sf47⟩
def i47 : FI := ⟨13, [], [2, 3, 6, 9], [], []⟩
def a47 : An := (.sq .reg (.sq (.sq .reg (.cd .dead .skip)) (.sq .reg .ret)))
theorem q47 : AllN 1 fun l => ∀ m t s d k, R.denF i47 a47 (bodyOf Tryz.f47) Tryz.f47.results.toList e47.ps e47.rs l ⟨m, t, s, d⟩ k = wrapF 1 2 sf47 l ⟨m, t, s, d⟩ k := by
  intro x0 m t s d k
  kernel_rfl
theorem ok47 : FunOK Tryz.prog 47 e47 := fun_ok facts mixed (I := i47) FnsOK.nil Tryz.func47 (by kernel_rfl) (by kernel_rfl) (by kernel_rfl) (an := a47) (by kernel_rfl) (by kernel_rfl) q47
def sf48 : FT 2 2 := fun a1 a2 m t s d k=>
 okB (ifB (beq (ifB (ble (succ a1) a2) a1 a2) 0) true (ifB (beq (ifB (ble (succ a1) a2) a1 a2) 0) false true))<|
 ifB (ifB (beq (ifB (ble (succ a1) a2) a1 a2) 0) true (ble 1000001 (ifB (ble (succ a1) a2) a2 a1))) (
 false)<|
 force (xor (xor 0 (shiftLeft a1 320)) (shiftLeft a2 384)) fun v3=>
 force v3 fun v4=>
 k v4 0 m t s d
def e48 : FunE := ⟨[.one (.int .u64), .one (.int .u64)], [.agg (lay 95), .one (.int .i64)], wrapF 2 2 sf48⟩
def i48 : FI := ⟨20, [4], [4, 5, 10, 15], [], []⟩
def a48 : An := (.sq .reg (.sq (.sq .reg (.cd .dead .skip)) (.sq .reg .ret)))
theorem q48 : AllN 2 fun l => ∀ m t s d k, R.denF i48 a48 (bodyOf Tryz.f48) Tryz.f48.results.toList e48.ps e48.rs l ⟨m, t, s, d⟩ k = wrapF 2 2 sf48 l ⟨m, t, s, d⟩ k := by
  intro x0 x1 m t s d k
  kernel_rfl
theorem ok48 : FunOK Tryz.prog 48 e48 := fun_ok facts mixed (I := i48) FnsOK.nil Tryz.func48 (by kernel_rfl) (by kernel_rfl) (by kernel_rfl) (an := a48) (by kernel_rfl) (by kernel_rfl) q48
def sf49 : FT 2 2 := fun a1 a2 m t s d k=>
 okB (ifB (ble (succ (xor a1 9223372036854775808)) 9223372036854775809) true (ifB (ble (succ (xor a1 9223372036854775808)) 9223372036854775809) false true))<|
 okB (ifB (ifB (ble (succ (xor a1 9223372036854775808)) 9223372036854775809) true (ble 9223372036854775817 (xor a1 9223372036854775808))) true (ifB (ifB (ble (succ (xor a1 9223372036854775808)) 9223372036854775809) true (ble 9223372036854775817 (xor a1 9223372036854775808))) false true))<|
 okB (ifB (ifB (ifB (ble (succ (xor a1 9223372036854775808)) 9223372036854775809) true (ble 9223372036854775817 (xor a1 9223372036854775808))) true (beq a2 0)) true (ifB (ifB (ifB (ble (succ (xor a1 9223372036854775808)) 9223372036854775809) true (ble 9223372036854775817 (xor a1 9223372036854775808))) true (beq a2 0)) false true))<|
 ifB (ifB (ifB (ifB (ble (succ (xor a1 9223372036854775808)) 9223372036854775809) true (ble 9223372036854775817 (xor a1 9223372036854775808))) true (beq a2 0)) true (ble 1000001 a2)) (
 false)<|
 force (shiftLeft t 6) fun v3=>
 force (add t 138) fun t4=>
 okB (ble (succ t4) 4194304)<|
 force (xor m (xor (shiftLeft (xor a1 (shiftLeft a2 64)) (shiftLeft t 6)) (mod (add (xor a1 (shiftLeft a2 64)) t) 2305843009213693951))) fun m5=>
 k v3 0 m5 t4 s d
def e49 : FunE := ⟨[.one (.int .i64), .one (.int .u64)], [.ptr (lay 183) false false, .one (.int .i64)], wrapF 2 2 sf49⟩
def i49 : FI := ⟨24, [], [4, 5, 8, 12, 16, 19], [], []⟩
def a49 : An := (.sq .reg (.sq (.sq .reg (.cd .dead .skip)) (.sq .reg .ret)))
theorem q49 : AllN 2 fun l => ∀ m t s d k, R.denF i49 a49 (bodyOf Tryz.f49) Tryz.f49.results.toList e49.ps e49.rs l ⟨m, t, s, d⟩ k = wrapF 2 2 sf49 l ⟨m, t, s, d⟩ k := by
  intro x0 x1 m t s d k
  kernel_rfl
theorem ok49 : FunOK Tryz.prog 49 e49 := fun_ok facts mixed (I := i49) FnsOK.nil Tryz.func49 (by kernel_rfl) (by kernel_rfl) (by kernel_rfl) (an := a49) (by kernel_rfl) (by kernel_rfl) q49
def sf50 : FT 2 2 := fun a1 a2 m t s d k=>
 okB (ifB (ble (succ (xor a1 9223372036854775808)) 9223372036854775809) true (ifB (ble (succ (xor a1 9223372036854775808)) 9223372036854775809) false true))<|
 okB (ifB (ifB (ble (succ (xor a1 9223372036854775808)) 9223372036854775809) true (ble 9223372036854775817 (xor a1 9223372036854775808))) true (ifB (ifB (ble (succ (xor a1 9223372036854775808)) 9223372036854775809) true (ble 9223372036854775817 (xor a1 9223372036854775808))) false true))<|
 okB (ifB (ifB (ifB (ble (succ (xor a1 9223372036854775808)) 9223372036854775809) true (ble 9223372036854775817 (xor a1 9223372036854775808))) true (beq a2 0)) true (ifB (ifB (ifB (ble (succ (xor a1 9223372036854775808)) 9223372036854775809) true (ble 9223372036854775817 (xor a1 9223372036854775808))) true (beq a2 0)) false true))<|
 ifB (ifB (ifB (ifB (ble (succ (xor a1 9223372036854775808)) 9223372036854775809) true (ble 9223372036854775817 (xor a1 9223372036854775808))) true (beq a2 0)) true (ble 1000001 a2)) (
 false)<|
 force (shiftLeft t 6) fun v3=>
 force (add t 134) fun t4=>
 okB (ble (succ t4) 4194304)<|
 force (xor m (xor (shiftLeft (xor a1 (shiftLeft a2 64)) (shiftLeft t 6)) (mod (add (xor a1 (shiftLeft a2 64)) t) 2305843009213693951))) fun m5=>
 k v3 0 m5 t4 s d
def e50 : FunE := ⟨[.one (.int .i64), .one (.int .u64)], [.ptr (lay 188) false false, .one (.int .i64)], wrapF 2 2 sf50⟩
def i50 : FI := ⟨24, [], [4, 5, 8, 12, 16, 19], [], []⟩
def a50 : An := (.sq .reg (.sq (.sq .reg (.cd .dead .skip)) (.sq .reg .ret)))
theorem q50 : AllN 2 fun l => ∀ m t s d k, R.denF i50 a50 (bodyOf Tryz.f50) Tryz.f50.results.toList e50.ps e50.rs l ⟨m, t, s, d⟩ k = wrapF 2 2 sf50 l ⟨m, t, s, d⟩ k := by
  intro x0 x1 m t s d k
  kernel_rfl
theorem ok50 : FunOK Tryz.prog 50 e50 := fun_ok facts mixed (I := i50) FnsOK.nil Tryz.func50 (by kernel_rfl) (by kernel_rfl) (by kernel_rfl) (an := a50) (by kernel_rfl) (by kernel_rfl) q50
def sf51 : FT 2 2 := fun a1 a2 m t s d k=>
 okB (ifB (ble (succ (xor a1 9223372036854775808)) 9223372036854775809) true (ifB (ble (succ (xor a1 9223372036854775808)) 9223372036854775809) false true))<|
 okB (ifB (ifB (ble (succ (xor a1 9223372036854775808)) 9223372036854775809) true (ble 9223372036854775817 (xor a1 9223372036854775808))) true (ifB (ifB (ble (succ (xor a1 9223372036854775808)) 9223372036854775809) true (ble 9223372036854775817 (xor a1 9223372036854775808))) false true))<|
 okB (ifB (ifB (ifB (ble (succ (xor a1 9223372036854775808)) 9223372036854775809) true (ble 9223372036854775817 (xor a1 9223372036854775808))) true (beq a2 0)) true (ifB (ifB (ifB (ble (succ (xor a1 9223372036854775808)) 9223372036854775809) true (ble 9223372036854775817 (xor a1 9223372036854775808))) true (beq a2 0)) false true))<|
 ifB (ifB (ifB (ifB (ble (succ (xor a1 9223372036854775808)) 9223372036854775809) true (ble 9223372036854775817 (xor a1 9223372036854775808))) true (beq a2 0)) true (ble 1000001 a2)) (
 false)<|
 force (shiftLeft t 6) fun v3=>
 force (add t 101) fun t4=>
 okB (ble (succ t4) 4194304)<|
 force (xor m (xor (shiftLeft (xor a1 (shiftLeft a2 64)) (shiftLeft t 6)) (mod (add (xor a1 (shiftLeft a2 64)) t) 2305843009213693951))) fun m5=>
 k v3 0 m5 t4 s d
def e51 : FunE := ⟨[.one (.int .i64), .one (.int .u64)], [.ptr (lay 193) false false, .one (.int .i64)], wrapF 2 2 sf51⟩
def i51 : FI := ⟨24, [], [4, 5, 8, 12, 16, 19], [], []⟩
def a51 : An := (.sq .reg (.sq (.sq .reg (.cd .dead .skip)) (.sq .reg .ret)))
theorem q51 : AllN 2 fun l => ∀ m t s d k, R.denF i51 a51 (bodyOf Tryz.f51) Tryz.f51.results.toList e51.ps e51.rs l ⟨m, t, s, d⟩ k = wrapF 2 2 sf51 l ⟨m, t, s, d⟩ k := by
  intro x0 x1 m t s d k
  kernel_rfl
theorem ok51 : FunOK Tryz.prog 51 e51 := fun_ok facts mixed (I := i51) FnsOK.nil Tryz.func51 (by kernel_rfl) (by kernel_rfl) (by kernel_rfl) (an := a51) (by kernel_rfl) (by kernel_rfl) q51
def sf52 : FT 4 2 := fun a1 a2 a3 a4 m t s d k=>
 okB (ifB (ble (succ (xor a1 9223372036854775808)) 9223372036854775809) true (ifB (ble (succ (xor a1 9223372036854775808)) 9223372036854775809) false true))<|
 okB (ifB (ifB (ble (succ (xor a1 9223372036854775808)) 9223372036854775809) true (ble 9223372036854775817 (xor a1 9223372036854775808))) true (ifB (ifB (ble (succ (xor a1 9223372036854775808)) 9223372036854775809) true (ble 9223372036854775817 (xor a1 9223372036854775808))) false true))<|
 okB (ifB (ifB (ifB (ble (succ (xor a1 9223372036854775808)) 9223372036854775809) true (ble 9223372036854775817 (xor a1 9223372036854775808))) true (beq (ifB (ble (succ (ifB (ble (succ a2) a3) a2 a3)) a4) (ifB (ble (succ a2) a3) a2 a3) a4) 0)) true (ifB (ifB (ifB (ble (succ (xor a1 9223372036854775808)) 9223372036854775809) true (ble 9223372036854775817 (xor a1 9223372036854775808))) true (beq (ifB (ble (succ (ifB (ble (succ a2) a3) a2 a3)) a4) (ifB (ble (succ a2) a3) a2 a3) a4) 0)) false true))<|
 ifB (ifB (ifB (ifB (ble (succ (xor a1 9223372036854775808)) 9223372036854775809) true (ble 9223372036854775817 (xor a1 9223372036854775808))) true (beq (ifB (ble (succ (ifB (ble (succ a2) a3) a2 a3)) a4) (ifB (ble (succ a2) a3) a2 a3) a4) 0)) true (ble 1000001 (ifB (ble (succ (ifB (ble (succ a2) a3) a3 a2)) a4) a4 (ifB (ble (succ a2) a3) a3 a2)))) (
 false)<|
 force (shiftLeft t 6) fun v5=>
 force (add t 235) fun t6=>
 okB (ble (succ t6) 4194304)<|
 force (xor m (xor (shiftLeft (xor (xor (xor a1 (shiftLeft a2 64)) (shiftLeft a3 128)) (shiftLeft a4 192)) (shiftLeft t 6)) (mod (add (xor (xor (xor a1 (shiftLeft a2 64)) (shiftLeft a3 128)) (shiftLeft a4 192)) t) 2305843009213693951))) fun m7=>
 k v5 0 m7 t6 s d
def e52 : FunE := ⟨[.one (.int .i64), .one (.int .u64), .one (.int .u64), .one (.int .u64)], [.ptr (lay 198) false false, .one (.int .i64)], wrapF 4 2 sf52⟩
def i52 : FI := ⟨36, [], [8, 9, 12, 16, 23, 29], [], []⟩
def a52 : An := (.sq .reg (.sq (.sq .reg (.cd .dead .skip)) (.sq .reg .ret)))
theorem q52 : AllN 4 fun l => ∀ m t s d k, R.denF i52 a52 (bodyOf Tryz.f52) Tryz.f52.results.toList e52.ps e52.rs l ⟨m, t, s, d⟩ k = wrapF 4 2 sf52 l ⟨m, t, s, d⟩ k := by
  intro x0 x1 x2 x3 m t s d k
  kernel_rfl
theorem ok52 : FunOK Tryz.prog 52 e52 := fun_ok facts mixed (I := i52) FnsOK.nil Tryz.func52 (by kernel_rfl) (by kernel_rfl) (by kernel_rfl) (an := a52) (by kernel_rfl) (by kernel_rfl) q52
def sf14 : FT 2 2 := fun a1 a2 m t s d k=>
 okB (ifB (ble (succ (xor a2 9223372036854775808)) 9223372036854775809) true (ifB (ble (succ (xor a2 9223372036854775808)) 9223372036854775809) false true))<|
 okB (ifB (ifB (ifB (ble (succ (xor a2 9223372036854775808)) 9223372036854775809) true (ble 9223372036854775841 (xor a2 9223372036854775808))) false true) (ifB (beq a1 0) false true) true)<|
 okB (ifB (ifB (ifB (ble (succ (xor a2 9223372036854775808)) 9223372036854775809) true (ble 9223372036854775841 (xor a2 9223372036854775808))) false true) (ble (succ a2) 33) true)<|
 okB (ifB (ifB (ble (succ (xor a2 9223372036854775808)) 9223372036854775809) true (ble 9223372036854775841 (xor a2 9223372036854775808))) true (ifB (ifB (ble (succ (xor a2 9223372036854775808)) 9223372036854775809) true (ble 9223372036854775841 (xor a2 9223372036854775808))) false true))<|
 ifB (ifB (ifB (ble (succ (xor a2 9223372036854775808)) 9223372036854775809) true (ble 9223372036854775841 (xor a2 9223372036854775808))) true (beq (land (shiftRight m (add a1 (mul a2 320))) 18446744073709551615) 0)) (
 force 0 fun v3=>
 force v3 fun v4=>
 force (ifB false 1 0) fun v5=>
 k v4 v5 m t s d)<|
 okB (ifB (beq a1 0) false true)<|
 okB (ble (succ a2) 33)<|
 force (land (shiftRight m (add a1 (mul a2 320))) (mask 5)) fun v6=>
 force v6 fun v7=>
 force (ifB true 1 0) fun v8=>
 k v7 v8 m t s d
def e14 : FunE := ⟨[.ptr (lay 108) false false, .one (.int .i64)], [.agg (lay 53), .one .bool], wrapF 2 2 sf14⟩
def i14 : FI := ⟨29, [4], [4, 5, 8, 12, 21], [], []⟩
def a14 : An := (.sq .reg (.sq (.sq .reg (.cd (.sq .reg .ret) .skip)) (.sq .reg .ret)))
theorem q14 : AllN 2 fun l => ∀ m t s d k, R.denF i14 a14 (bodyOf Tryz.f14) Tryz.f14.results.toList e14.ps e14.rs l ⟨m, t, s, d⟩ k = wrapF 2 2 sf14 l ⟨m, t, s, d⟩ k := by
  intro x0 x1 m t s d k
  kernel_rfl
theorem ok14 : FunOK Tryz.prog 14 e14 := fun_ok facts mixed (I := i14) FnsOK.nil Tryz.func14 (by kernel_rfl) (by kernel_rfl) (by kernel_rfl) (an := a14) (by kernel_rfl) (by kernel_rfl) q14
def sf80 : FT 1 1 := fun a1 m t s d k=>
 force a1 fun v2=>
 okB (ifB (ifB (ble (succ (xor (land (shiftRight v2 0) 18446744073709551615) 9223372036854775808)) 9223372036854775809) false true) (ifB (ble (succ (xor (land (shiftRight v2 0) 18446744073709551615) 9223372036854775808)) 9223372036854775809) false true) true)<|
 okB (ifB (ifB (ifB (ble (succ (xor (land (shiftRight v2 0) 18446744073709551615) 9223372036854775808)) 9223372036854775809) false true) (ifB (ble 9223372036854775841 (xor (land (shiftRight v2 0) 18446744073709551615) 9223372036854775808)) false true) false) (ifB (ifB (ble (succ (xor (land (shiftRight v2 0) 18446744073709551615) 9223372036854775808)) 9223372036854775809) false true) (ifB (ble 9223372036854775841 (xor (land (shiftRight v2 0) 18446744073709551615) 9223372036854775808)) false true) false) true)<|
 okB (ifB (ifB (ifB (ifB (ble (succ (xor (land (shiftRight v2 0) 18446744073709551615) 9223372036854775808)) 9223372036854775809) false true) (ifB (ble 9223372036854775841 (xor (land (shiftRight v2 0) 18446744073709551615) 9223372036854775808)) false true) false) (ifB (ble (succ (xor (land (shiftRight v2 64) 18446744073709551615) 9223372036854775808)) 9223372036854775808) false true) false) (ifB (ifB (ifB (ble (succ (xor (land (shiftRight v2 0) 18446744073709551615) 9223372036854775808)) 9223372036854775809) false true) (ifB (ble 9223372036854775841 (xor (land (shiftRight v2 0) 18446744073709551615) 9223372036854775808)) false true) false) (ifB (ble (succ (xor (land (shiftRight v2 64) 18446744073709551615) 9223372036854775808)) 9223372036854775808) false true) false) true)<|
 join (fun (r3 m4 t4 s4 d4 : Nat)=>
 okB (ifB (ifB (ifB (ifB (ifB (ble (succ (xor (land (shiftRight v2 0) 18446744073709551615) 9223372036854775808)) 9223372036854775809) false true) (ifB (ble 9223372036854775841 (xor (land (shiftRight v2 0) 18446744073709551615) 9223372036854775808)) false true) false) (ifB (ble (succ (xor (land (shiftRight v2 64) 18446744073709551615) 9223372036854775808)) 9223372036854775808) false true) false) (ble (succ (xor (land (shiftRight v2 64) 18446744073709551615) 9223372036854775808)) 9223372036854775812) false) (ifB (ifB (ifB (ifB (ble (succ (xor (land (shiftRight v2 0) 18446744073709551615) 9223372036854775808)) 9223372036854775809) false true) (ifB (ble 9223372036854775841 (xor (land (shiftRight v2 0) 18446744073709551615) 9223372036854775808)) false true) false) (ifB (ble (succ (xor (land (shiftRight v2 64) 18446744073709551615) 9223372036854775808)) 9223372036854775808) false true) false) (ble (succ (xor (land (shiftRight v2 64) 18446744073709551615) 9223372036854775808)) 9223372036854775812) false) true)<|
 force (ifB (ifB (ifB (ifB (ifB (ifB (ble (succ (xor (land (shiftRight v2 0) 18446744073709551615) 9223372036854775808)) 9223372036854775809) false true) (ifB (ble 9223372036854775841 (xor (land (shiftRight v2 0) 18446744073709551615) 9223372036854775808)) false true) false) (ifB (ble (succ (xor (land (shiftRight v2 64) 18446744073709551615) 9223372036854775808)) 9223372036854775808) false true) false) (ble (succ (xor (land (shiftRight v2 64) 18446744073709551615) 9223372036854775808)) 9223372036854775812) false) (ifB (beq r3 1) false true) false) 1 0) fun v6=>
 k v6 m4 t4 s4 d4) fun J5=>
 ifB (ifB (ifB (ifB (ifB (ble (succ (xor (land (shiftRight v2 0) 18446744073709551615) 9223372036854775808)) 9223372036854775809) false true) (ifB (ble 9223372036854775841 (xor (land (shiftRight v2 0) 18446744073709551615) 9223372036854775808)) false true) false) (ifB (ble (succ (xor (land (shiftRight v2 64) 18446744073709551615) 9223372036854775808)) 9223372036854775808) false true) false) (ble (succ (xor (land (shiftRight v2 64) 18446744073709551615) 9223372036854775808)) 9223372036854775812) false) (
 force (land (shiftRight v2 192) 340282366920938463463374607431768211455) fun v7=>
 sf57 v7 m t s d fun r8 m9 t9 s9 d9=>
 J5 r8 m9 t9 s9 d9)<|
 J5 0 m t s d
def e80 : FunE := ⟨[.agg (lay 53)], [.one .bool], wrapF 1 1 sf80⟩
def i80 : FI := ⟨27, [1], [1, 2, 6, 11, 16, 21], [(57, e57)], []⟩
def a80 : An := (.sq .reg (.sq .reg .ret))
theorem q80 : AllN 1 fun l => ∀ m t s d k, R.denF i80 a80 (bodyOf Tryz.f80) Tryz.f80.results.toList e80.ps e80.rs l ⟨m, t, s, d⟩ k = wrapF 1 1 sf80 l ⟨m, t, s, d⟩ k := by
  intro x0 m t s d k
  kernel_rfl
theorem ok80 : FunOK Tryz.prog 80 e80 := fun_ok facts mixed (I := i80) (FnsOK.cons ok57 FnsOK.nil) Tryz.func80 (by kernel_rfl) (by kernel_rfl) (by kernel_rfl) (an := a80) (by kernel_rfl) (by kernel_rfl) q80
def sf151 : FT 1 1 := fun a1 m t s d k=>
 join (fun (m2 t2 s2 d2 : Nat)=>
 k 0 m2 t2 s2 d2) fun J3=>
 force (land (shiftRight a1 28) 131071) fun v4=>
 loopN 7 (fun (_ _ _ _ _ : Nat) => false) (fun L7 (p5 m6 t6 s6 d6 : Nat)=>
 ifB (ble (succ (xor p5 9223372036854775808)) (xor v4 9223372036854775808)) (
 okB (ble (succ p5) (land (shiftRight a1 28) 131071))<|
 okB (beq (land (shiftRight d6 (shiftRight (add (land a1 268435455) (mul p5 64)) 6)) 1) 0)<|
 force (land (shiftRight m6 (add (land a1 268435455) (mul p5 64))) 18446744073709551615) fun v8=>
 ifB (ifB (beq v8 0) false true) (
 k v8 m6 t6 s6 d6)<|
 force (mod (add p5 1) 18446744073709551616) fun v9=>
 L7 v9 m6 t6 s6 d6)<|
 J3 m6 t6 s6 d6) 0 m t s d
def e151 : FunE := ⟨[.sli ([.int .i64])], [.one (.int .i64)], wrapF 1 1 sf151⟩
def i151 : FI := ⟨18, [], [2, 3, 5, 6, 7, 8, 9, 14], [], []⟩
def a151 : An := (.sq .reg (.sq .reg (.sj [] (.sq .reg (.bl (.lp [(8, .sh (.one (.int .i64)))] 7 (.sq .reg (.sq (.cd .skip .ex) (.sq (.bl (.sq .reg (.sq .reg (.cd (.sq .reg .ret) .skip)))) .reg)))))) (.sq .reg .ret))))
theorem q151 : AllN 1 fun l => ∀ m t s d k, R.denF i151 a151 (bodyOf Tryz.f151) Tryz.f151.results.toList e151.ps e151.rs l ⟨m, t, s, d⟩ k = wrapF 1 1 sf151 l ⟨m, t, s, d⟩ k := by
  intro x0 m t s d k
  kernel_rfl
theorem ok151 : FunOK Tryz.prog 151 e151 := fun_ok facts mixed (I := i151) FnsOK.nil Tryz.func151 (by kernel_rfl) (by kernel_rfl) (by kernel_rfl) (an := a151) (by kernel_rfl) (by kernel_rfl) q151
def sf223 : FT 1 1 := fun a1 m t s d k=>
 force (ifB (ifB (beq a1 a1) false true) 1 0) fun v2=>
 k v2 m t s d
def e223 : FunE := ⟨[.one (.int .u32)], [.one .bool], wrapF 1 1 sf223⟩
def i223 : FI := ⟨6, [], [2], [], []⟩
def a223 : An := (.sq .reg (.sq .reg .ret))
theorem q223 : AllN 1 fun l => ∀ m t s d k, R.denF i223 a223 (bodyOf Tryz.f223) Tryz.f223.results.toList e223.ps e223.rs l ⟨m, t, s, d⟩ k = wrapF 1 1 sf223 l ⟨m, t, s, d⟩ k := by
  intro x0 m t s d k
  kernel_rfl
theorem ok223 : FunOK Tryz.prog 223 e223 := fun_ok facts mixed (I := i223) FnsOK.nil Tryz.func223 (by kernel_rfl) (by kernel_rfl) (by kernel_rfl) (an := a223) (by kernel_rfl) (by kernel_rfl) q223
def sf152 : FT 2 1 := fun a1 a2 m t s d k=>
 sf223 a1 m t s d fun r3 m4 t4 s4 d4=>
 sf223 a2 m4 t4 s4 d4 fun r5 m6 t6 s6 d6=>
 ifB (beq r3 1) (
 false)<|
 ifB (beq r5 1) (
 false)<|
 ifB (ble (succ a1) a2) (
 k 18446744073709551615 m6 t6 s6 d6)<|
 ifB (ble (succ a2) a1) (
 k 1 m6 t6 s6 d6)<|
 k 0 m6 t6 s6 d6
def e152 : FunE := ⟨[.one (.int .u32), .one (.int .u32)], [.one (.int .i64)], wrapF 2 1 sf152⟩
def i152 : FI := ⟨20, [], [4, 5, 6, 11, 12, 13, 16, 19], [(223, e223)], []⟩
def a152 : An := (.sq .reg (.sq .reg (.sq .reg (.sq (.sq .reg (.cd .dead .skip)) (.sq (.sq .reg (.cd .dead .skip)) (.sq (.sq .reg (.cd (.sq .reg .ret) .skip)) (.sq (.sq .reg (.cd (.sq .reg .ret) .skip)) (.sq .reg .ret))))))))
theorem q152 : AllN 2 fun l => ∀ m t s d k, R.denF i152 a152 (bodyOf Tryz.f152) Tryz.f152.results.toList e152.ps e152.rs l ⟨m, t, s, d⟩ k = wrapF 2 1 sf152 l ⟨m, t, s, d⟩ k := by
  intro x0 x1 m t s d k
  kernel_rfl
theorem ok152 : FunOK Tryz.prog 152 e152 := fun_ok facts mixed (I := i152) (FnsOK.cons ok223 FnsOK.nil) Tryz.func152 (by kernel_rfl) (by kernel_rfl) (by kernel_rfl) (an := a152) (by kernel_rfl) (by kernel_rfl) q152
def sf224 : FT 1 1 := fun a1 m t s d k=>
 force (ifB (ifB (beq a1 a1) false true) 1 0) fun v2=>
 k v2 m t s d
def e224 : FunE := ⟨[.one (.int .i64)], [.one .bool], wrapF 1 1 sf224⟩
def i224 : FI := ⟨6, [], [2], [], []⟩
def a224 : An := (.sq .reg (.sq .reg .ret))
theorem q224 : AllN 1 fun l => ∀ m t s d k, R.denF i224 a224 (bodyOf Tryz.f224) Tryz.f224.results.toList e224.ps e224.rs l ⟨m, t, s, d⟩ k = wrapF 1 1 sf224 l ⟨m, t, s, d⟩ k := by
  intro x0 m t s d k
  kernel_rfl
theorem ok224 : FunOK Tryz.prog 224 e224 := fun_ok facts mixed (I := i224) FnsOK.nil Tryz.func224 (by kernel_rfl) (by kernel_rfl) (by kernel_rfl) (an := a224) (by kernel_rfl) (by kernel_rfl) q224
def sf153 : FT 2 1 := fun a1 a2 m t s d k=>
 sf224 a1 m t s d fun r3 m4 t4 s4 d4=>
 sf224 a2 m4 t4 s4 d4 fun r5 m6 t6 s6 d6=>
 ifB (beq r3 1) (
 false)<|
 ifB (beq r5 1) (
 false)<|
 ifB (ble (succ (xor a1 9223372036854775808)) (xor a2 9223372036854775808)) (
 k 18446744073709551615 m6 t6 s6 d6)<|
 ifB (ble (succ (xor a2 9223372036854775808)) (xor a1 9223372036854775808)) (
 k 1 m6 t6 s6 d6)<|
 k 0 m6 t6 s6 d6
def e153 : FunE := ⟨[.one (.int .i64), .one (.int .i64)], [.one (.int .i64)], wrapF 2 1 sf153⟩
def i153 : FI := ⟨20, [], [4, 5, 6, 11, 12, 13, 16, 19], [(224, e224)], []⟩
def a153 : An := (.sq .reg (.sq .reg (.sq .reg (.sq (.sq .reg (.cd .dead .skip)) (.sq (.sq .reg (.cd .dead .skip)) (.sq (.sq .reg (.cd (.sq .reg .ret) .skip)) (.sq (.sq .reg (.cd (.sq .reg .ret) .skip)) (.sq .reg .ret))))))))
theorem q153 : AllN 2 fun l => ∀ m t s d k, R.denF i153 a153 (bodyOf Tryz.f153) Tryz.f153.results.toList e153.ps e153.rs l ⟨m, t, s, d⟩ k = wrapF 2 1 sf153 l ⟨m, t, s, d⟩ k := by
  intro x0 x1 m t s d k
  kernel_rfl
theorem ok153 : FunOK Tryz.prog 153 e153 := fun_ok facts mixed (I := i153) (FnsOK.cons ok224 FnsOK.nil) Tryz.func153 (by kernel_rfl) (by kernel_rfl) (by kernel_rfl) (an := a153) (by kernel_rfl) (by kernel_rfl) q153
def sf280 : FT 1 1 := fun a1 m t s d k=>
 force (ifB (ifB (beq a1 a1) false true) 1 0) fun v2=>
 k v2 m t s d
def e280 : FunE := ⟨[.one (.int .u16)], [.one .bool], wrapF 1 1 sf280⟩
def i280 : FI := ⟨6, [], [2], [], []⟩
def a280 : An := (.sq .reg (.sq .reg .ret))
theorem q280 : AllN 1 fun l => ∀ m t s d k, R.denF i280 a280 (bodyOf Tryz.f280) Tryz.f280.results.toList e280.ps e280.rs l ⟨m, t, s, d⟩ k = wrapF 1 1 sf280 l ⟨m, t, s, d⟩ k := by
  intro x0 m t s d k
  kernel_rfl
theorem ok280 : FunOK Tryz.prog 280 e280 := fun_ok facts mixed (I := i280) FnsOK.nil Tryz.func280 (by kernel_rfl) (by kernel_rfl) (by kernel_rfl) (an := a280) (by kernel_rfl) (by kernel_rfl) q280
def sf225 : FT 2 1 := fun a1 a2 m t s d k=>
 sf280 a1 m t s d fun r3 m4 t4 s4 d4=>
 sf280 a2 m4 t4 s4 d4 fun r5 m6 t6 s6 d6=>
 ifB (beq r3 1) (
 false)<|
 ifB (beq r5 1) (
 false)<|
 ifB (ble (succ a1) a2) (
 false)<|
 ifB (ble (succ a2) a1) (
 false)<|
 k 0 m6 t6 s6 d6
def e225 : FunE := ⟨[.one (.int .u16), .one (.int .u16)], [.one (.int .i64)], wrapF 2 1 sf225⟩
def i225 : FI := ⟨20, [], [4, 5, 6, 11, 12, 13, 16, 19], [(280, e280)], []⟩
def a225 : An := (.sq .reg (.sq .reg (.sq .reg (.sq (.sq .reg (.cd .dead .skip)) (.sq (.sq .reg (.cd .dead .skip)) (.sq (.sq .reg (.cd .dead .skip)) (.sq (.sq .reg (.cd .dead .skip)) (.sq .reg .ret))))))))
theorem q225 : AllN 2 fun l => ∀ m t s d k, R.denF i225 a225 (bodyOf Tryz.f225) Tryz.f225.results.toList e225.ps e225.rs l ⟨m, t, s, d⟩ k = wrapF 2 1 sf225 l ⟨m, t, s, d⟩ k := by
  intro x0 x1 m t s d k
  kernel_rfl
theorem ok225 : FunOK Tryz.prog 225 e225 := fun_ok facts mixed (I := i225) (FnsOK.cons ok280 FnsOK.nil) Tryz.func225 (by kernel_rfl) (by kernel_rfl) (by kernel_rfl) (an := a225) (by kernel_rfl) (by kernel_rfl) q225
def sf154 : FT 2 1 := fun a1 a2 m t s d k=>
 force a1 fun v3=>
 force a2 fun v4=>
 force (land (shiftRight v3 0) 18446744073709551615) fun v5=>
 force (land (shiftRight v4 0) 18446744073709551615) fun v6=>
 sf152 v5 v6 m t s d fun r7 m8 t8 s8 d8=>
 okB (beq (land (shiftRight v4 64) 18446744073709551615) (land (shiftRight v4 64) 18446744073709551615))<|
 okB (beq (land (shiftRight v3 64) 18446744073709551615) (land (shiftRight v3 64) 18446744073709551615))<|
 force (land (shiftRight v3 64) 18446744073709551615) fun v9=>
 force (land (shiftRight v4 64) 18446744073709551615) fun v10=>
 sf225 v9 v10 m8 t8 s8 d8 fun r11 m12 t12 s12 d12=>
 force (shiftLeft t12 6) fun v13=>
 force (add t12 2) fun t14=>
 okB (ble (succ t14) 4194304)<|
 force (xor m12 (xor (shiftLeft (xor r7 (shiftLeft r11 64)) (shiftLeft t12 6)) (mod (add (xor r7 (shiftLeft r11 64)) t12) 2305843009213693951))) fun m15=>
 force (add v13 4611756387708436480) fun v16=>
 sf151 v16 m15 t14 s12 d12 fun r17 m18 t18 s18 d18=>
 k r17 m18 t18 s18 d18
def e154 : FunE := ⟨[.agg (lay 44), .agg (lay 44)], [.one (.int .i64)], wrapF 2 1 sf154⟩
def i154 : FI := ⟨17, [2, 3], [2, 3, 4], [(151, e151), (152, e152), (225, e225)], []⟩
def a154 : An := (.sq .reg (.sq (.drw [(0, 0), (1, 0), (2, 0), (3, 0), (5, 0), (6, 0), (7, 0), (8, 0), (4, 1), (9, 1), (10, 1), (11, 1), (12, 0)]) .ret))
theorem q154 : AllN 2 fun l => ∀ m t s d k, R.denF i154 a154 (bodyOf Tryz.f154) Tryz.f154.results.toList e154.ps e154.rs l ⟨m, t, s, d⟩ k = wrapF 2 1 sf154 l ⟨m, t, s, d⟩ k := by
  intro x0 x1 m t s d k
  kernel_rfl
theorem ok154 : FunOK Tryz.prog 154 e154 := fun_ok facts mixed (I := i154) (FnsOK.cons ok151 (FnsOK.cons ok152 (FnsOK.cons ok225 FnsOK.nil))) Tryz.func154 (by kernel_rfl) (by kernel_rfl) (by kernel_rfl) (an := a154) (by kernel_rfl) (by kernel_rfl) q154
def sf112 : FT 2 1 := fun a1 a2 m t s d k=>
 force a1 fun v3=>
 force a2 fun v4=>
 force (land (shiftRight v3 128) 18446744073709551615) fun v5=>
 force (land (shiftRight v4 128) 18446744073709551615) fun v6=>
 sf152 v5 v6 m t s d fun r7 m8 t8 s8 d8=>
 okB (beq (land (shiftRight v4 192) 340282366920938463463374607431768211455) (land (shiftRight v4 192) 340282366920938463463374607431768211455))<|
 okB (beq (land (shiftRight v3 192) 340282366920938463463374607431768211455) (land (shiftRight v3 192) 340282366920938463463374607431768211455))<|
 okB (beq (land (shiftRight v4 64) 18446744073709551615) (land (shiftRight v4 64) 18446744073709551615))<|
 okB (beq (land (shiftRight v3 64) 18446744073709551615) (land (shiftRight v3 64) 18446744073709551615))<|
 force (land (shiftRight v3 64) 18446744073709551615) fun v9=>
 force (land (shiftRight v4 64) 18446744073709551615) fun v10=>
 sf153 v9 v10 m8 t8 s8 d8 fun r11 m12 t12 s12 d12=>
 okB (beq (land (shiftRight v4 192) 340282366920938463463374607431768211455) (land (shiftRight v4 192) 340282366920938463463374607431768211455))<|
 okB (beq (land (shiftRight v3 192) 340282366920938463463374607431768211455) (land (shiftRight v3 192) 340282366920938463463374607431768211455))<|
 force (land (shiftRight v3 192) 340282366920938463463374607431768211455) fun v13=>
 force (land (shiftRight v4 192) 340282366920938463463374607431768211455) fun v14=>
 sf154 v13 v14 m12 t12 s12 d12 fun r15 m16 t16 s16 d16=>
 force (shiftLeft t16 6) fun v17=>
 force (add t16 3) fun t18=>
 okB (ble (succ t18) 4194304)<|
 force (xor m16 (xor (shiftLeft (xor (xor r7 (shiftLeft r11 64)) (shiftLeft r15 128)) (shiftLeft t16 6)) (mod (add (xor (xor r7 (shiftLeft r11 64)) (shiftLeft r15 128)) t16) 2305843009213693951))) fun m19=>
 force (add v17 4611791572348960768) fun v20=>
 sf151 v20 m19 t18 s16 d16 fun r21 m22 t22 s22 d22=>
 k r21 m22 t22 s22 d22
def e112 : FunE := ⟨[.agg (lay 53), .agg (lay 53)], [.one (.int .i64)], wrapF 2 1 sf112⟩
def i112 : FI := ⟨22, [2, 3], [2, 3, 4], [(151, e151), (152, e152), (153, e153), (154, e154)], []⟩
def a112 : An := (.sq .reg (.sq (.drw [(0, 0), (1, 0), (2, 0), (3, 0), (5, 0), (6, 0), (7, 0), (8, 0), (10, 0), (11, 0), (12, 0), (13, 0), (4, 1), (9, 1), (14, 1), (15, 1), (16, 1), (17, 0)]) .ret))
theorem q112 : AllN 2 fun l => ∀ m t s d k, R.denF i112 a112 (bodyOf Tryz.f112) Tryz.f112.results.toList e112.ps e112.rs l ⟨m, t, s, d⟩ k = wrapF 2 1 sf112 l ⟨m, t, s, d⟩ k := by
  intro x0 x1 m t s d k
  kernel_rfl
theorem ok112 : FunOK Tryz.prog 112 e112 := fun_ok facts mixed (I := i112) (FnsOK.cons ok151 (FnsOK.cons ok152 (FnsOK.cons ok153 (FnsOK.cons ok154 FnsOK.nil)))) Tryz.func112 (by kernel_rfl) (by kernel_rfl) (by kernel_rfl) (an := a112) (by kernel_rfl) (by kernel_rfl) q112
def sf81 : FT 2 1 := fun a1 a2 m t s d k=>
 force a1 fun v3=>
 force a2 fun v4=>
 force v3 fun v5=>
 force v4 fun v6=>
 sf112 v5 v6 m t s d fun r7 m8 t8 s8 d8=>
 force (ifB (ble 9223372036854775809 (xor r7 9223372036854775808)) 1 0) fun v9=>
 k v9 m8 t8 s8 d8
def e81 : FunE := ⟨[.agg (lay 53), .agg (lay 53)], [.one .bool], wrapF 2 1 sf81⟩
def i81 : FI := ⟨9, [2, 3], [2, 3, 4], [(112, e112)], []⟩
def a81 : An := (.sq .reg (.sq .reg .ret))
theorem q81 : AllN 2 fun l => ∀ m t s d k, R.denF i81 a81 (bodyOf Tryz.f81) Tryz.f81.results.toList e81.ps e81.rs l ⟨m, t, s, d⟩ k = wrapF 2 1 sf81 l ⟨m, t, s, d⟩ k := by
  intro x0 x1 m t s d k
  kernel_rfl
theorem ok81 : FunOK Tryz.prog 81 e81 := fun_ok facts mixed (I := i81) (FnsOK.cons ok112 FnsOK.nil) Tryz.func81 (by kernel_rfl) (by kernel_rfl) (by kernel_rfl) (an := a81) (by kernel_rfl) (by kernel_rfl) q81
def sf82 : FT 2 0 := fun a1 a2 m t s d k=>
 force a2 fun v3=>
 okB (ifB (beq a1 0) false true)<|
 okB (ifB (beq a1 0) false true)<|
 force (xor (land (shiftRight m (add a1 10624)) 18446744073709551615) (mod (add (land (shiftRight m (add a1 10624)) 18446744073709551615) 1) 18446744073709551616)) fun v4=>
 force (xor m (xor (shiftLeft v4 (add a1 10624)) (mod (add v4 (add a1 10624)) 2305843009213693951))) fun m5=>
 okB (ifB (beq a1 0) false true)<|
 force v3 fun v6=>
 okB (beq (land (shiftRight m5 (add a1 10560)) 18446744073709551615) (land (shiftRight m5 (add a1 10560)) 18446744073709551615))<|
 join (fun (r7 m8 t8 s8 d8 : Nat)=>
 okB (ifB (beq a1 0) false true)<|
 force (xor (land (shiftRight m8 (add a1 10560)) 18446744073709551615) r7) fun v10=>
 force (xor m8 (xor (shiftLeft v10 (add a1 10560)) (mod (add v10 (add a1 10560)) 2305843009213693951))) fun m11=>
 okB (ifB (beq a1 0) false true)<|
 okB (ifB (beq a1 0) false true)<|
 okB (ifB (ble (ifB (ble (succ (xor (mod (sub (add (land (shiftRight (land (shiftRight m11 (add a1 10560)) 18446744073709551615) 28) 131071) 18446744073709551616) 128) 18446744073709551616) 9223372036854775808)) 9223372036854775808) 0 (mod (sub (add (land (shiftRight (land (shiftRight m11 (add a1 10560)) 18446744073709551615) 28) 131071) 18446744073709551616) 128) 18446744073709551616)) (land (shiftRight (land (shiftRight m11 (add a1 10560)) 18446744073709551615) 28) 131071)) (ble (land (shiftRight (land (shiftRight m11 (add a1 10560)) 18446744073709551615) 28) 131071) (land (shiftRight (land (shiftRight m11 (add a1 10560)) 18446744073709551615) 45) 131071)) false)<|
 okB (ifB (beq a1 0) false true)<|
 force (xor (land (shiftRight m11 (add a1 10560)) 18446744073709551615) (ifB (beq (land (land (shiftRight m11 (add a1 10560)) 18446744073709551615) 268435455) 0) (land (shiftRight m11 (add a1 10560)) 18446744073709551615) (ifB (beq (add (sub (land (shiftRight (land (shiftRight m11 (add a1 10560)) 18446744073709551615) 45) 131071) (ifB (ble (succ (xor (mod (sub (add (land (shiftRight (land (shiftRight m11 (add a1 10560)) 18446744073709551615) 28) 131071) 18446744073709551616) 128) 18446744073709551616) 9223372036854775808)) 9223372036854775808) 0 (mod (sub (add (land (shiftRight (land (shiftRight m11 (add a1 10560)) 18446744073709551615) 28) 131071) 18446744073709551616) 128) 18446744073709551616))) (shiftRight (land (shiftRight m11 (add a1 10560)) 18446744073709551615) 62)) 0) 9223372036854775808 (add (add (land (land (shiftRight m11 (add a1 10560)) 18446744073709551615) 268435455) (mul (ifB (ble (succ (xor (mod (sub (add (land (shiftRight (land (shiftRight m11 (add a1 10560)) 18446744073709551615) 28) 131071) 18446744073709551616) 128) 18446744073709551616) 9223372036854775808)) 9223372036854775808) 0 (mod (sub (add (land (shiftRight (land (shiftRight m11 (add a1 10560)) 18446744073709551615) 28) 131071) 18446744073709551616) 128) 18446744073709551616)) 256)) (shiftLeft (add (sub (land (shiftRight (land (shiftRight m11 (add a1 10560)) 18446744073709551615) 28) 131071) (ifB (ble (succ (xor (mod (sub (add (land (shiftRight (land (shiftRight m11 (add a1 10560)) 18446744073709551615) 28) 131071) 18446744073709551616) 128) 18446744073709551616) 9223372036854775808)) 9223372036854775808) 0 (mod (sub (add (land (shiftRight (land (shiftRight m11 (add a1 10560)) 18446744073709551615) 28) 131071) 18446744073709551616) 128) 18446744073709551616))) (shiftLeft (add (sub (land (shiftRight (land (shiftRight m11 (add a1 10560)) 18446744073709551615) 45) 131071) (ifB (ble (succ (xor (mod (sub (add (land (shiftRight (land (shiftRight m11 (add a1 10560)) 18446744073709551615) 28) 131071) 18446744073709551616) 128) 18446744073709551616) 9223372036854775808)) 9223372036854775808) 0 (mod (sub (add (land (shiftRight (land (shiftRight m11 (add a1 10560)) 18446744073709551615) 28) 131071) 18446744073709551616) 128) 18446744073709551616))) (shiftLeft (shiftRight (land (shiftRight m11 (add a1 10560)) 18446744073709551615) 62) 17)) 17)) 28))))) fun v12=>
 force (xor m11 (xor (shiftLeft v12 (add a1 10560)) (mod (add v12 (add a1 10560)) 2305843009213693951))) fun m13=>
 k m13 t8 s8 d8) fun J9=>
 appR 4 (land (shiftRight m5 (add a1 10560)) 18446744073709551615) 1 v6 m5 t s d J9
def e82 : FunE := ⟨[.ptr (lay 108) false false, .agg (lay 203)], [], wrapF 2 0 sf82⟩
def i82 : FI := ⟨36, [3, 17], [3, 4], [], []⟩
def a82 : An := (.sq .reg (.sq .reg (.sq (.drw [(0, 0), (1, 0), (2, 0), (3, 0), (4, 0), (5, 0), (6, 2), (7, 1), (8, 0), (9, 0), (10, 1)]) (.drw [(0, 0), (1, 0), (2, 0), (3, 0), (4, 0), (5, 0), (6, 0), (7, 0), (8, 0), (9, 0), (10, 0), (11, 0), (12, 0), (13, 0), (14, 0), (15, 1)]))))
theorem q82 : AllN 2 fun l => ∀ m t s d k, R.denF i82 a82 (bodyOf Tryz.f82) Tryz.f82.results.toList e82.ps e82.rs l ⟨m, t, s, d⟩ k = wrapF 2 0 sf82 l ⟨m, t, s, d⟩ k := by
  intro x0 x1 m t s d k
  kernel_rfl
theorem ok82 : FunOK Tryz.prog 82 e82 := fun_ok facts mixed (I := i82) FnsOK.nil Tryz.func82 (by kernel_rfl) (by kernel_rfl) (by kernel_rfl) (an := a82) (by kernel_rfl) (by kernel_rfl) q82
def sf53 : FT 2 2 := fun a1 a2 m t s d k=>
 force a2 fun v3=>
 force v3 fun v4=>
 sf80 v4 m t s d fun r5 m6 t6 s6 d6=>
 ifB (ifB (beq r5 1) false true) (
 false)<|
 force (land (shiftRight v3 0) 18446744073709551615) fun v7=>
 sf14 a1 v7 m6 t6 s6 d6 fun r8 r9 m10 t10 s10 d10=>
 force r8 fun v11=>
 join (fun (p12 m13 t13 s13 d13 : Nat)=>
 join (fun (r15 m16 t16 s16 d16 : Nat)=>
 okB (ifB (beq r9 1) (beq r9 1) true)<|
 ifB (ifB (beq r9 1) (ifB (beq r15 1) false true) false) (
 force (ifB false 1 0) fun v18=>
 k v18 0 m16 t16 s16 d16)<|
 okB (ifB (beq a1 0) false true)<|
 okB (ble (succ (land (shiftRight v3 0) 18446744073709551615)) 33)<|
 force (xor (land (shiftRight m16 (add a1 (mul (land (shiftRight v3 0) 18446744073709551615) 320))) (mask 5)) v3) fun v19=>
 force (xor m16 (xor (shiftLeft v19 (add a1 (mul (land (shiftRight v3 0) 18446744073709551615) 320))) (mod (add v19 (add a1 (mul (land (shiftRight v3 0) 18446744073709551615) 320))) 2305843009213693951))) fun m20=>
 join (fun (m21 t21 s21 d21 : Nat)=>
 force (ifB true 1 0) fun v23=>
 k v23 0 m21 t21 s21 d21) fun J22=>
 ifB (ifB (beq p12 (land (shiftRight v3 64) 18446744073709551615)) false true) (
 force (xor (xor (xor (land (shiftRight v3 0) 18446744073709551615) (shiftLeft p12 64)) (shiftLeft (land (shiftRight v3 64) 18446744073709551615) 128)) (shiftLeft (land (shiftRight v3 128) 18446744073709551615) 192)) fun v24=>
 sf82 a1 v24 m20 t16 s16 d16 fun m25 t25 s25 d25=>
 J22 m25 t25 s25 d25)<|
 J22 m20 t16 s16 d16) fun J17=>
 ifB (beq r9 1) (
 force v3 fun v26=>
 force v11 fun v27=>
 sf81 v26 v27 m13 t13 s13 d13 fun r28 m29 t29 s29 d29=>
 J17 r28 m29 t29 s29 d29)<|
 J17 0 m13 t13 s13 d13) fun J14=>
 ifB (beq r9 1) (
 force (land (shiftRight v11 64) 18446744073709551615) fun v30=>
 J14 v30 m10 t10 s10 d10)<|
 J14 18446744073709551615 m10 t10 s10 d10
def e53 : FunE := ⟨[.ptr (lay 108) false false, .agg (lay 53)], [.one .bool, .one (.int .i64)], wrapF 2 2 sf53⟩
def i53 : FI := ⟨50, [3, 7], [3, 4, 5, 6, 7, 8, 11, 12, 19, 23, 28, 39], [(14, e14), (80, e80), (81, e81), (82, e82)], []⟩
def a53 : An := (.sq .reg (.sq (.sq .reg (.cd .dead .skip)) (.sq .reg (.sq .reg (.sj [(6, .sh (.one (.int .i64)))] (.sq .reg (.cd .reg .skip)) (.sq (.sq .reg (.cd (.sq .reg .ret) .skip)) (.sq (.drw [(0, 0), (1, 0), (2, 0), (3, 0), (4, 0), (5, 0), (6, 0), (7, 1)]) (.sj [] (.sq .reg (.cd .reg .skip)) (.sq .reg .ret)))))))))
theorem q53 : AllN 2 fun l => ∀ m t s d k, R.denF i53 a53 (bodyOf Tryz.f53) Tryz.f53.results.toList e53.ps e53.rs l ⟨m, t, s, d⟩ k = wrapF 2 2 sf53 l ⟨m, t, s, d⟩ k := by
  intro x0 x1 m t s d k
  kernel_rfl
theorem ok53 : FunOK Tryz.prog 53 e53 := fun_ok facts mixed (I := i53) (FnsOK.cons ok14 (FnsOK.cons ok80 (FnsOK.cons ok81 (FnsOK.cons ok82 FnsOK.nil)))) Tryz.func53 (by kernel_rfl) (by kernel_rfl) (by kernel_rfl) (an := a53) (by kernel_rfl) (by kernel_rfl) q53
def sf20 : FT 1 2 := fun a1 m t s d k=>
 force a1 fun v2=>
 force v2 fun v3=>
 sf42 v3 m t s d fun r4 m5 t5 s5 d5=>
 ifB (ifB (beq r4 1) false true) (
 false)<|
 force (land (shiftRight v2 384) 18446744073709551615) fun v6=>
 sf43 v6 m5 t5 s5 d5 fun r7 m8 t8 s8 d8=>
 force (xor v2 (shiftLeft (xor (land (shiftRight v2 384) 18446744073709551615) r7) 384)) fun v9=>
 sf44 m8 t8 s8 d8 fun r10 m11 t11 s11 d11=>
 okB (beq (land (shiftRight v9 64) 340282366920938463463374607431768211455) (land (shiftRight v9 64) 340282366920938463463374607431768211455))<|
 okB (beq (land (shiftRight v9 320) 18446744073709551615) (land (shiftRight v9 320) 18446744073709551615))<|
 okB (beq (land (shiftRight v9 0) 18446744073709551615) (land (shiftRight v9 0) 18446744073709551615))<|
 okB (beq (land (shiftRight v9 256) 18446744073709551615) (land (shiftRight v9 256) 18446744073709551615))<|
 okB (beq v9 v9)<|
 force (land (shiftRight v9 256) 18446744073709551615) fun v12=>
 sf45 v12 m11 t11 s11 d11 fun r13 m14 t14 s14 d14=>
 okB (beq (land (shiftRight v9 64) 340282366920938463463374607431768211455) (land (shiftRight v9 64) 340282366920938463463374607431768211455))<|
 okB (beq (land (shiftRight v9 320) 18446744073709551615) (land (shiftRight v9 320) 18446744073709551615))<|
 okB (beq (land (shiftRight v9 0) 18446744073709551615) (land (shiftRight v9 0) 18446744073709551615))<|
 okB (beq v9 v9)<|
 sf46 m14 t14 s14 d14 fun r15 m16 t16 s16 d16=>
 okB (beq (land (shiftRight v9 64) 340282366920938463463374607431768211455) (land (shiftRight v9 64) 340282366920938463463374607431768211455))<|
 okB (beq (land (shiftRight v9 320) 18446744073709551615) (land (shiftRight v9 320) 18446744073709551615))<|
 okB (beq (land (shiftRight v9 0) 18446744073709551615) (land (shiftRight v9 0) 18446744073709551615))<|
 okB (beq v9 v9)<|
 force (shiftLeft t16 6) fun v17=>
 force (add t16 37) fun t18=>
 okB (ble (succ t18) 4194304)<|
 force (xor m16 (xor (shiftLeft (xor (xor (xor (xor v9 (shiftLeft r10 960)) (shiftLeft r13 1088)) (shiftLeft r15 1600)) (shiftLeft (xor (xor (land (shiftRight v9 0) 18446744073709551615) (shiftLeft (land (shiftRight v9 320) 18446744073709551615) 128)) (shiftLeft (land (shiftRight v9 64) 340282366920938463463374607431768211455) 192)) 640)) (shiftLeft t16 6)) (mod (add (xor (xor (xor (xor v9 (shiftLeft r10 960)) (shiftLeft r13 1088)) (shiftLeft r15 1600)) (shiftLeft (xor (xor (land (shiftRight v9 0) 18446744073709551615) (shiftLeft (land (shiftRight v9 320) 18446744073709551615) 128)) (shiftLeft (land (shiftRight v9 64) 340282366920938463463374607431768211455) 192)) 640)) t16) 2305843009213693951))) fun m19=>
 sf47 64 m19 t18 s16 d16 fun r20 r21 m22 t22 s22 d22=>
 force (xor (land (shiftRight m22 (add v17 1024)) 18446744073709551615) r20) fun v23=>
 force (xor m22 (xor (shiftLeft v23 (add v17 1024)) (mod (add v23 (add v17 1024)) 2305843009213693951))) fun m24=>
 force (land (shiftRight v9 448) 18446744073709551615) fun v25=>
 force (land (shiftRight v9 448) 18446744073709551615) fun v26=>
 sf48 v25 v26 m24 t22 s22 d22 fun r27 r28 m29 t29 s29 d29=>
 force (xor (land (shiftRight m29 (add v17 1152)) (mask 7)) r27) fun v30=>
 force (xor m29 (xor (shiftLeft v30 (add v17 1152)) (mod (add v30 (add v17 1152)) 2305843009213693951))) fun m31=>
 force (land (shiftRight v9 512) 18446744073709551615) fun v32=>
 sf49 2 v32 m31 t29 s29 d29 fun r33 r34 m35 t35 s35 d35=>
 force (xor (land (shiftRight m35 (add v17 1664)) 18446744073709551615) r33) fun v36=>
 force (xor m35 (xor (shiftLeft v36 (add v17 1664)) (mod (add v36 (add v17 1664)) 2305843009213693951))) fun m37=>
 force (land (shiftRight v9 512) 18446744073709551615) fun v38=>
 sf50 8 v38 m37 t35 s35 d35 fun r39 r40 m41 t41 s41 d41=>
 force (xor (land (shiftRight m41 (add v17 1728)) 18446744073709551615) r39) fun v42=>
 force (xor m41 (xor (shiftLeft v42 (add v17 1728)) (mod (add v42 (add v17 1728)) 2305843009213693951))) fun m43=>
 force (land (shiftRight v9 448) 18446744073709551615) fun v44=>
 sf51 2 v44 m43 t41 s41 d41 fun r45 r46 m47 t47 s47 d47=>
 force (xor (land (shiftRight m47 (add v17 1792)) 18446744073709551615) r45) fun v48=>
 force (xor m47 (xor (shiftLeft v48 (add v17 1792)) (mod (add v48 (add v17 1792)) 2305843009213693951))) fun m49=>
 force (land (shiftRight v9 448) 18446744073709551615) fun v50=>
 force (land (shiftRight v9 448) 18446744073709551615) fun v51=>
 force (land (shiftRight v9 512) 18446744073709551615) fun v52=>
 sf52 3 v50 v51 v52 m49 t47 s47 d47 fun r53 r54 m55 t55 s55 d55=>
 force (xor (land (shiftRight m55 (add v17 1856)) 18446744073709551615) r53) fun v56=>
 force (xor m55 (xor (shiftLeft v56 (add v17 1856)) (mod (add v56 (add v17 1856)) 2305843009213693951))) fun m57=>
 force (land (shiftRight m57 (add v17 960)) 18446744073709551615) fun v58=>
 force (land (shiftRight m57 (add v17 640)) (mask 5)) fun v59=>
 sf53 v58 v59 m57 t55 s55 d55 fun r60 r61 m62 t62 s62 d62=>
 join (fun (m63 t63 s63 d63 : Nat)=>
 k v17 0 m63 t63 s63 d63) fun J64=>
 force (land (shiftRight v9 384) 18446744073709551615) fun v65=>
 force (land (shiftRight v65 28) 131071) fun v66=>
 loopN 5 (fun (_ _ _ _ _ _ : Nat) => false) (fun L70 (p67 p68 m69 t69 s69 d69 : Nat)=>
 ifB (ble (succ (xor p68 9223372036854775808)) (xor v66 9223372036854775808)) (
 join (fun (p71 m72 t72 s72 d72 : Nat)=>
 force (mod (add p68 1) 18446744073709551616) fun v74=>
 L70 p71 v74 m72 t72 s72 d72) fun J73=>
 okB (ble (succ p68) (land (shiftRight v65 28) 131071))<|
 okB (beq (land (shiftRight d69 (shiftRight (add (land v65 268435455) (mul p68 256)) 6)) 15) 0)<|
 force (land (shiftRight m69 (add (land v65 268435455) (mul p68 256))) (mask 4)) fun v75=>
 ifB (ifB (beq (land (shiftRight v75 0) 18446744073709551615) (land (shiftRight p67 0) 18446744073709551615)) false true) (
 force (land (shiftRight m69 (add v17 960)) 18446744073709551615) fun v76=>
 force (xor (land (shiftRight v75 0) 18446744073709551615) (shiftLeft (land (shiftRight v75 64) 340282366920938463463374607431768211455) 192)) fun v77=>
 sf53 v76 v77 m69 t69 s69 d69 fun r78 r79 m80 t80 s80 d80=>
 J73 p67 m80 t80 s80 d80)<|
 J73 p67 m69 t69 s69 d69)<|
 J64 m69 t69 s69 d69) v9 0 m62 t62 s62 d62
def e20 : FunE := ⟨[.agg (lay 76)], [.ptr (lay 104) false false, .one (.int .i64)], wrapF 1 2 sf20⟩
def i20 : FI := ⟨120, [1, 6], [1, 2, 3, 4, 6, 9, 29, 36, 47, 56, 65, 74, 97, 98, 99, 100, 107], [(42, e42), (43, e43), (44, e44), (45, e45), (46, e46), (47, e47), (48, e48), (49, e49), (50, e50), (51, e51), (52, e52), (53, e53)], []⟩
def a20 : An := (.sq .reg (.sq (.sq .reg (.cd .dead .skip)) (.sq .reg (.sq (.drw [(0, 0), (2, 0), (3, 0), (6, 0), (7, 0), (8, 0), (9, 0), (10, 0), (11, 0), (12, 0), (1, 1), (4, 1), (5, 1), (13, 0), (14, 1), (15, 0)]) (.sq .reg (.sq .reg (.sq .reg (.sq .reg (.sq .reg (.sq .reg (.sq (.drw [(0, 0), (1, 0), (2, 0), (3, 0), (4, 0), (5, 0), (6, 0), (7, 0), (8, 1)]) (.sj [] (.sq .reg (.bl (.lp [(1, .loc (lay 76)), (99, .sh (.one (.int .i64)))] 5 (.sq .reg (.sq (.cd .skip .ex) (.sj [(1, .loc (lay 76))] (.bl (.sq .reg (.sq .reg (.cd (.drw [(0, 0), (1, 0), (2, 0), (3, 0), (4, 0), (5, 0), (6, 0), (7, 0), (8, 0), (9, 1)]) .skip)))) .reg)))))) (.sq .reg .ret)))))))))))))
theorem q20 : AllN 1 fun l => ∀ m t s d k, R.denF i20 a20 (bodyOf Tryz.f20) Tryz.f20.results.toList e20.ps e20.rs l ⟨m, t, s, d⟩ k = wrapF 1 2 sf20 l ⟨m, t, s, d⟩ k := by
  intro x0 m t s d k
  kernel_rfl
theorem ok20 : FunOK Tryz.prog 20 e20 := fun_ok facts mixed (I := i20) (FnsOK.cons ok42 (FnsOK.cons ok43 (FnsOK.cons ok44 (FnsOK.cons ok45 (FnsOK.cons ok46 (FnsOK.cons ok47 (FnsOK.cons ok48 (FnsOK.cons ok49 (FnsOK.cons ok50 (FnsOK.cons ok51 (FnsOK.cons ok52 (FnsOK.cons ok53 FnsOK.nil)))))))))))) Tryz.func20 (by kernel_rfl) (by kernel_rfl) (by kernel_rfl) (an := a20) (by kernel_rfl) (by kernel_rfl) q20
def sf54 : FT 1 2 := fun a1 m t s d k=>
 okB (ifB (ble (succ (xor a1 9223372036854775808)) 9223372036854775809) true (ifB (ble (succ (xor a1 9223372036854775808)) 9223372036854775809) false true))<|
 ifB (ifB (ble (succ (xor a1 9223372036854775808)) 9223372036854775809) true (ble 9223372036854776065 (xor a1 9223372036854775808))) (
 false)<|
 force (shiftLeft t 6) fun v2=>
 force (add t 2) fun t3=>
 okB (ble (succ t3) 4194304)<|
 force (xor m (xor (shiftLeft (xor 0 (shiftLeft a1 64)) (shiftLeft t 6)) (mod (add (xor 0 (shiftLeft a1 64)) t) 2305843009213693951))) fun m4=>
 k v2 0 m4 t3 s d
def e54 : FunE := ⟨[.one (.int .i64)], [.ptr (lay 157) false false, .one (.int .i64)], wrapF 1 2 sf54⟩
def i54 : FI := ⟨13, [], [2, 3, 6, 9], [], []⟩
def a54 : An := (.sq .reg (.sq (.sq .reg (.cd .dead .skip)) (.sq .reg .ret)))
theorem q54 : AllN 1 fun l => ∀ m t s d k, R.denF i54 a54 (bodyOf Tryz.f54) Tryz.f54.results.toList e54.ps e54.rs l ⟨m, t, s, d⟩ k = wrapF 1 2 sf54 l ⟨m, t, s, d⟩ k := by
  intro x0 m t s d k
  kernel_rfl
theorem ok54 : FunOK Tryz.prog 54 e54 := fun_ok facts mixed (I := i54) FnsOK.nil Tryz.func54 (by kernel_rfl) (by kernel_rfl) (by kernel_rfl) (an := a54) (by kernel_rfl) (by kernel_rfl) q54
def sf56 : FT 2 1 := fun a1 a2 m t s d k=>
 force a1 fun v3=>
 force (ifB (beq (land (shiftRight v3 0) 340282366920938463463374607431768211455) (land (shiftRight m a2) 340282366920938463463374607431768211455)) 1 0) fun v4=>
 k v4 m t s d
def e56 : FunE := ⟨[.agg (lay 80), .ptr (lay 80) false true], [.one .bool], wrapF 2 1 sf56⟩
def i56 : FI := ⟨9, [2], [2, 3], [], []⟩
def a56 : An := (.sq .reg (.sq .reg .ret))
theorem q56 : AllN 2 fun l => ∀ m t s d k, R.denF i56 a56 (bodyOf Tryz.f56) Tryz.f56.results.toList e56.ps e56.rs l ⟨m, t, s, d⟩ k = wrapF 2 1 sf56 l ⟨m, t, s, d⟩ k := by
  intro x0 x1 m t s d k
  kernel_rfl
theorem ok56 : FunOK Tryz.prog 56 e56 := fun_ok facts mixed (I := i56) FnsOK.nil Tryz.func56 (by kernel_rfl) (by kernel_rfl) (by kernel_rfl) (an := a56) (by kernel_rfl) (by kernel_rfl) q56
def sf83 : FT 2 1 := fun a1 a2 m t s d k=>
 join (fun (m3 t3 s3 d3 : Nat)=>
 k 18446744073709551615 m3 t3 s3 d3) fun J4=>
 force (land (shiftRight a1 28) 131071) fun v5=>
 loopN 5 (fun (_ _ _ _ _ : Nat) => false) (fun L8 (p6 m7 t7 s7 d7 : Nat)=>
 ifB (ble (succ (xor p6 9223372036854775808)) (xor v5 9223372036854775808)) (
 okB (ble (succ p6) (land (shiftRight a1 28) 131071))<|
 okB (beq (land (shiftRight d7 (shiftRight (add (land a1 268435455) (mul p6 192)) 6)) 7) 0)<|
 ifB (beq (land a2 1023) 57) (
 force (land (shiftRight m7 (add (land a1 268435455) (mul p6 192))) 6277101735386680763835789423207666416102355444464034512895) fun v9=>
 force (shiftLeft (land (shiftRight a2 10) 4194303) 6) fun v10=>
 sf56 v9 v10 m7 t7 s7 d7 fun r11 m12 t12 s12 d12=>
 ifB (beq r11 1) (
 false)<|
 force (mod (add p6 1) 18446744073709551616) fun v13=>
 L8 v13 m12 t12 s12 d12)<|
 false)<|
 J4 m7 t7 s7 d7) 0 m t s d
def e83 : FunE := ⟨[.sli (lay 80), .one .fn], [.one (.int .i64)], wrapF 2 1 sf83⟩
def i83 : FI := ⟨19, [], [4, 5, 7, 8, 9, 16], [(56, e56)], [(16, [56])]⟩
def a83 : An := (.sq .reg (.sj [] (.sq .reg (.bl (.lp [(8, .sh (.one (.int .i64)))] 5 (.sq .reg (.sq (.cd .skip .ex) (.sq (.bl (.sq .reg (.sq .reg (.cd .dead .skip)))) .reg)))))) (.sq .reg .ret)))
theorem q83 : AllN 2 fun l => ∀ m t s d k, R.denF i83 a83 (bodyOf Tryz.f83) Tryz.f83.results.toList e83.ps e83.rs l ⟨m, t, s, d⟩ k = wrapF 2 1 sf83 l ⟨m, t, s, d⟩ k := by
  intro x0 x1 m t s d k
  kernel_rfl
theorem ok83 : FunOK Tryz.prog 83 e83 := fun_ok facts mixed (I := i83) (FnsOK.cons ok56 FnsOK.nil) Tryz.func83 (by kernel_rfl) (by kernel_rfl) (by kernel_rfl) (an := a83) (by kernel_rfl) (by kernel_rfl) q83
def sf55 : FT 2 1 := fun a1 a2 m t s d k=>
 sf83 a1 a2 m t s d fun r3 m4 t4 s4 d4=>
 force (ifB (ifB (ble (succ (xor r3 9223372036854775808)) 9223372036854775808) false true) 1 0) fun v5=>
 k v5 m4 t4 s4 d4
def e55 : FunE := ⟨[.sli (lay 80), .one .fn], [.one .bool], wrapF 2 1 sf55⟩
def i55 : FI := ⟨9, [], [4], [(83, e83)], []⟩
def a55 : An := (.sq .reg (.sq .reg .ret))
theorem q55 : AllN 2 fun l => ∀ m t s d k, R.denF i55 a55 (bodyOf Tryz.f55) Tryz.f55.results.toList e55.ps e55.rs l ⟨m, t, s, d⟩ k = wrapF 2 1 sf55 l ⟨m, t, s, d⟩ k := by
  intro x0 x1 m t s d k
  kernel_rfl
theorem ok55 : FunOK Tryz.prog 55 e55 := fun_ok facts mixed (I := i55) (FnsOK.cons ok83 FnsOK.nil) Tryz.func55 (by kernel_rfl) (by kernel_rfl) (by kernel_rfl) (an := a55) (by kernel_rfl) (by kernel_rfl) q55
def sf23 : FT 3 2 := fun a1 a2 a3 m t s d k=>
 force (shiftLeft t 6) fun v4=>
 force (add t 3) fun t5=>
 okB (ble (succ t5) 4194304)<|
 force (xor m (xor (shiftLeft 0 (shiftLeft t 6)) (mod (add 0 t) 2305843009213693951))) fun m6=>
 okB (ifB (ble (succ (xor (land (shiftRight a1 28) 131071) 9223372036854775808)) 9223372036854775809) true (ifB (ble (succ (xor (land (shiftRight a1 28) 131071) 9223372036854775808)) 9223372036854775809) false true))<|
 okB (ifB (ifB (ble (succ (xor (land (shiftRight a1 28) 131071) 9223372036854775808)) 9223372036854775809) true (ble 9223372036854775841 (xor (land (shiftRight a1 28) 131071) 9223372036854775808))) true (ifB (ifB (ble (succ (xor (land (shiftRight a1 28) 131071) 9223372036854775808)) 9223372036854775809) true (ble 9223372036854775841 (xor (land (shiftRight a1 28) 131071) 9223372036854775808))) false true))<|
 ifB (ifB (ifB (ble (succ (xor (land (shiftRight a1 28) 131071) 9223372036854775808)) 9223372036854775809) true (ble 9223372036854775841 (xor (land (shiftRight a1 28) 131071) 9223372036854775808))) true (ble 9223372036854775825 (xor (land (shiftRight a2 28) 131071) 9223372036854775808))) (
 false)<|
 sf54 a3 m6 t5 s d fun r7 r8 m9 t9 s9 d9=>
 force (xor (land (shiftRight m9 (add v4 128)) 18446744073709551615) r7) fun v10=>
 force (xor m9 (xor (shiftLeft v10 (add v4 128)) (mod (add v10 (add v4 128)) 2305843009213693951))) fun m11=>
 ifB (ifB (beq r8 0) false true) (
 false)<|
 join (fun (m12 t12 s12 d12 : Nat)=>
 join (fun (m14 t14 s14 d14 : Nat)=>
 k v4 0 m14 t14 s14 d14) fun J15=>
 force (land (shiftRight a2 28) 131071) fun v16=>
 loopN 4 (fun (_ _ _ _ _ : Nat) => false) (fun L19 (p17 m18 t18 s18 d18 : Nat)=>
 ifB (ble (succ (xor p17 9223372036854775808)) (xor v16 9223372036854775808)) (
 false)<|
 J15 m18 t18 s18 d18) 0 m12 t12 s12 d12) fun J13=>
 force (land (shiftRight a1 28) 131071) fun v20=>
 loopN 6 (fun (_ _ _ _ _ : Nat) => false) (fun L23 (p21 m22 t22 s22 d22 : Nat)=>
 ifB (ble (succ (xor p21 9223372036854775808)) (xor v20 9223372036854775808)) (
 okB (ble (succ p21) (land (shiftRight a1 28) 131071))<|
 okB (beq (land (shiftRight d22 (shiftRight (add (land a1 268435455) (mul p21 192)) 6)) 7) 0)<|
 force (shiftLeft t22 6) fun v24=>
 force (add t22 3) fun t25=>
 okB (ble (succ t25) 4194304)<|
 force (xor (land (shiftRight m22 v24) 6277101735386680763835789423207666416102355444464034512895) (land (shiftRight m22 (add (land a1 268435455) (mul p21 192))) 6277101735386680763835789423207666416102355444464034512895)) fun v26=>
 force (xor m22 (xor (shiftLeft v26 v24) (mod (add v26 v24) 2305843009213693951))) fun m27=>
 okB (ifB (beq v24 0) false (ble (succ v24) 268435456))<|
 force (land (shiftRight m27 v4) 18446744073709551615) fun v28=>
 force (add 57 (shiftLeft (shiftRight v24 6) 10)) fun v29=>
 sf55 v28 v29 m27 t25 s22 d22 fun r30 m31 t31 s31 d31=>
 join (fun (r32 m33 t33 s33 d33 : Nat)=>
 okB (ifB (beq r30 1) true (ifB (beq r30 1) false true))<|
 okB (ifB (ifB (beq r30 1) true (beq r32 1)) true (ifB (ifB (beq r30 1) true (beq r32 1)) false true))<|
 okB (ifB (ifB (ifB (beq r30 1) true (beq r32 1)) true (ble (succ (xor (land (shiftRight m33 (add v24 128)) 18446744073709551615) 9223372036854775808)) 9223372036854775808)) true (ifB (ifB (ifB (beq r30 1) true (beq r32 1)) true (ble (succ (xor (land (shiftRight m33 (add v24 128)) 18446744073709551615) 9223372036854775808)) 9223372036854775808)) false true))<|
 ifB (ifB (ifB (ifB (beq r30 1) true (beq r32 1)) true (ble (succ (xor (land (shiftRight m33 (add v24 128)) 18446744073709551615) 9223372036854775808)) 9223372036854775808)) true (ble (succ (xor (land (shiftRight a2 28) 131071) 9223372036854775808)) (xor (land (shiftRight m33 (add v24 128)) 18446744073709551615) 9223372036854775808))) (
 false)<|
 force (land (shiftRight m33 v24) 6277101735386680763835789423207666416102355444464034512895) fun v35=>
 okB (beq (land (shiftRight m33 v4) 18446744073709551615) (land (shiftRight m33 v4) 18446744073709551615))<|
 join (fun (r36 m37 t37 s37 d37 : Nat)=>
 force (xor (land (shiftRight m37 v4) 18446744073709551615) r36) fun v39=>
 force (xor m37 (xor (shiftLeft v39 v4) (mod (add v39 v4) 2305843009213693951))) fun m40=>
 force (mod (add p21 1) 18446744073709551616) fun v41=>
 L23 v41 m40 t37 s37 d37) fun J38=>
 appR 3 (land (shiftRight m33 v4) 18446744073709551615) 1 v35 m33 t33 s33 d33 J38) fun J34=>
 ifB (ifB (beq r30 1) false true) (
 force (land (shiftRight m31 v24) 340282366920938463463374607431768211455) fun v42=>
 sf57 v42 m31 t31 s31 d31 fun r43 m44 t44 s44 d44=>
 J34 r43 m44 t44 s44 d44)<|
 J34 0 m31 t31 s31 d31)<|
 J13 m22 t22 s22 d22) 0 m11 t9 s9 d9
def e23 : FunE := ⟨[.sli (lay 80), .sli (lay 71), .one (.int .i64)], [.ptr (lay 85) false false, .one (.int .i64)], wrapF 3 2 sf23⟩
def i23 : FI := ⟨127, [14, 78, 121], [6, 7, 8, 9, 11, 12, 14, 15, 16, 22, 27, 31, 32, 41, 42, 43, 44, 45, 55, 60, 65, 71, 83, 84, 85, 86, 89, 103, 109, 114], [(54, e54), (55, e55), (57, e57)], []⟩
def a23 : An := (.sq .reg (.sc (.sq .reg (.sq .reg (.sq (.sq .reg (.cd .dead .skip)) (.sq (.sq .reg (.sq .reg (.cd .dead .skip))) (.sj [] (.sq .reg (.bl (.lp [(44, .sh (.one (.int .i64)))] 6 (.sq .reg (.sq (.cd .skip .ex) (.sq (.bl (.sq .reg (.sq .reg (.sq (.sq .reg (.cd .dead .skip)) (.drw [(0, 0), (1, 0), (2, 0), (3, 0), (4, 0), (5, 0), (6, 2), (7, 1), (8, 0), (9, 0), (10, 1)]))))) .reg)))))) (.sj [] (.sq .reg (.bl (.lp [(85, .sh (.one (.int .i64)))] 4 (.sq .reg (.sq (.cd .dead .ex) .dead))))) (.sq (.sq .reg .ret) .dead)))))))))
theorem q23 : AllN 3 fun l => ∀ m t s d k, R.denF i23 a23 (bodyOf Tryz.f23) Tryz.f23.results.toList e23.ps e23.rs l ⟨m, t, s, d⟩ k = wrapF 3 2 sf23 l ⟨m, t, s, d⟩ k := by
  intro x0 x1 x2 m t s d k
  kernel_rfl
theorem ok23 : FunOK Tryz.prog 23 e23 := fun_ok facts mixed (I := i23) (FnsOK.cons ok54 (FnsOK.cons ok55 (FnsOK.cons ok57 FnsOK.nil))) Tryz.func23 (by kernel_rfl) (by kernel_rfl) (by kernel_rfl) (an := a23) (by kernel_rfl) (by kernel_rfl) q23
def sf7 : FT 1 2 := fun a1 m t s d k=>
 force a1 fun v2=>
 force v2 fun v3=>
 sf18 v3 m t s d fun r4 m5 t5 s5 d5=>
 ifB (ifB (beq r4 1) false true) (
 false)<|
 force (land (shiftRight v2 0) 18446744073709551615) fun v6=>
 sf19 v6 m5 t5 s5 d5 fun r7 m8 t8 s8 d8=>
 force (xor v2 (shiftLeft (xor (land (shiftRight v2 0) 18446744073709551615) r7) 0)) fun v9=>
 force (shiftLeft t8 6) fun v10=>
 force (add t8 12) fun t11=>
 okB (ble (succ t11) 4194304)<|
 force (xor m8 (xor (shiftLeft v9 (shiftLeft t8 6)) (mod (add v9 t8) 2305843009213693951))) fun m12=>
 join (fun (p13 p14 p15 m16 t16 s16 d16 : Nat)=>
 force (land (shiftRight p13 448) 18446744073709551615) fun v18=>
 sf23 p14 p15 v18 m16 t16 s16 d16 fun r19 r20 m21 t21 s21 d21=>
 force (xor (land (shiftRight m21 (add v10 704)) 18446744073709551615) r19) fun v22=>
 force (xor m21 (xor (shiftLeft v22 (add v10 704)) (mod (add v22 (add v10 704)) 2305843009213693951))) fun m23=>
 k v10 0 m23 t21 s21 d21) fun J17=>
 force (land (shiftRight v9 0) 18446744073709551615) fun v24=>
 force (land (shiftRight v24 28) 131071) fun v25=>
 loopN 6 (fun (_ _ _ _ _ _ _ _ : Nat) => false) (fun L31 (p26 p27 p28 p29 m30 t30 s30 d30 : Nat)=>
 ifB (ble (succ (xor p29 9223372036854775808)) (xor v25 9223372036854775808)) (
 okB (ble (succ p29) (land (shiftRight v24 28) 131071))<|
 okB (beq (land (shiftRight d30 (shiftRight (add (land v24 268435455) (mul p29 256)) 6)) 15) 0)<|
 force (land (shiftRight m30 (add (land v24 268435455) (mul p29 256))) (mask 4)) fun v32=>
 force (mod (add p29 1) 18446744073709551616) fun v33=>
 force (xor 0 (shiftLeft (ifB true 1 0) 64)) fun v34=>
 force (land (shiftRight v32 192) 18446744073709551615) fun v35=>
 ifB (beq v35 1) (
 false)<|
 force p26 fun v36=>
 sf21 v36 v33 0 m30 t30 s30 d30 fun r37 m38 t38 s38 d38=>
 sf20 r37 m38 t38 s38 d38 fun r39 r40 m41 t41 s41 d41=>
 force (xor v34 (shiftLeft (xor (land (shiftRight v34 0) 18446744073709551615) r39) 0)) fun v42=>
 force (land (shiftRight v42 0) 18446744073709551615) fun v43=>
 sf15 v43 m41 t41 s41 d41 fun r44 m45 t45 s45 d45=>
 force (shiftLeft t45 6) fun v46=>
 force (add t45 5) fun t47=>
 okB (ble (succ t47) 4194304)<|
 force (xor m45 (xor (shiftLeft r44 (shiftLeft t45 6)) (mod (add r44 t45) 2305843009213693951))) fun m48=>
 force (xor v42 (shiftLeft (xor (land (shiftRight v42 128) 18446744073709551615) (add v46 4611721203067912192)) 128)) fun v49=>
 force p26 fun v50=>
 sf22 v50 v33 m48 t47 s45 d45 fun r51 m52 t52 s52 d52=>
 okB (beq (land (shiftRight v49 192) 18446744073709551615) (land (shiftRight v49 192) 18446744073709551615))<|
 force (xor r51 (shiftLeft (land (shiftRight v49 192) 18446744073709551615) 128)) fun v53=>
 join (fun (r54 m55 t55 s55 d55 : Nat)=>
 force v49 fun v57=>
 okB (beq (land (shiftRight m55 (add v10 640)) 18446744073709551615) (land (shiftRight m55 (add v10 640)) 18446744073709551615))<|
 join (fun (r58 m59 t59 s59 d59 : Nat)=>
 force (xor (land (shiftRight m59 (add v10 640)) 18446744073709551615) r58) fun v61=>
 force (xor m59 (xor (shiftLeft v61 (add v10 640)) (mod (add v61 (add v10 640)) 2305843009213693951))) fun m62=>
 force (mod (add p29 1) 18446744073709551616) fun v63=>
 L31 p26 r54 p28 v63 m62 t59 s59 d59) fun J60=>
 appR 4 (land (shiftRight m55 (add v10 640)) 18446744073709551615) 1 v57 m55 t55 s55 d55 J60) fun J56=>
 appR 3 p27 1 v53 m52 t52 s52 d52 J56)<|
 J17 p26 p27 p28 m30 t30 s30 d30) v9 0 0 0 m12 t11 s8 d8
def e7 : FunE := ⟨[.agg (lay 31)], [.ptr (lay 65) false false, .one (.int .i64)], wrapF 1 2 sf7⟩
def i7 : FI := ⟨93, [1, 8, 10, 43, 68, 76], [1, 2, 3, 4, 5, 6, 7, 8, 9, 10, 13, 22, 23, 24, 25, 33, 48, 81], [(15, e15), (18, e18), (19, e19), (20, e20), (21, e21), (22, e22), (23, e23)], []⟩
def a7 : An := (.sq .reg (.sq (.sq .reg (.cd .dead .skip)) (.sq .reg (.sq .reg (.sq .reg (.sq .reg (.sj [(1, .loc (lay 31)), (5, .sh (.sli (lay 80))), (6, .sh (.sli (lay 71)))] (.sq .reg (.bl (.lp [(1, .loc (lay 31)), (5, .sh (.sli (lay 80))), (6, .sh (.sli (lay 71))), (24, .sh (.one (.int .i64)))] 6 (.sq .reg (.sq (.cd .skip .ex) (.sq (.bl (.sq .reg (.sq .reg (.sq .reg (.sq (.sq .reg (.cd .dead .skip)) (.sq .reg (.sq .reg (.sq (.drw [(0, 0), (1, 0), (2, 0), (4, 0), (5, 0), (3, 1), (6, 0), (7, 2), (8, 1), (9, 1)]) (.drw [(0, 0), (1, 0), (2, 0), (3, 0), (4, 0), (5, 0), (6, 2), (7, 1), (8, 0), (9, 0), (10, 1)]))))))))) .reg)))))) (.sq .reg (.sq .reg .ret)))))))))
theorem q7 : AllN 1 fun l => ∀ m t s d k, R.denF i7 a7 (bodyOf Tryz.f7) Tryz.f7.results.toList e7.ps e7.rs l ⟨m, t, s, d⟩ k = wrapF 1 2 sf7 l ⟨m, t, s, d⟩ k := by
  intro x0 m t s d k
  kernel_rfl
theorem ok7 : FunOK Tryz.prog 7 e7 := fun_ok facts mixed (I := i7) (FnsOK.cons ok15 (FnsOK.cons ok18 (FnsOK.cons ok19 (FnsOK.cons ok20 (FnsOK.cons ok21 (FnsOK.cons ok22 (FnsOK.cons ok23 FnsOK.nil))))))) Tryz.func7 (by kernel_rfl) (by kernel_rfl) (by kernel_rfl) (an := a7) (by kernel_rfl) (by kernel_rfl) q7
def sf39 : FT 2 1 := fun a1 a2 m t s d k=>
 okB (ifB (ifB (ble (succ (xor a2 9223372036854775808)) 9223372036854775809) false true) (ifB (beq a1 0) false true) true)<|
 okB (ifB (ble (succ (xor a2 9223372036854775808)) 9223372036854775809) true (ifB (ble (succ (xor a2 9223372036854775808)) 9223372036854775809) false true))<|
 ifB (ifB (ble (succ (xor a2 9223372036854775808)) 9223372036854775809) true (ble (succ (xor (land (shiftRight (land (shiftRight m (add a1 640)) 18446744073709551615) 28) 131071) 9223372036854775808)) (xor a2 9223372036854775808))) (
 false)<|
 okB (ifB (beq a1 0) false true)<|
 okB (ble (succ (mod (sub (add a2 18446744073709551616) 1) 18446744073709551616)) (land (shiftRight (land (shiftRight m (add a1 640)) 18446744073709551615) 28) 131071))<|
 force (add (land (land (shiftRight m (add a1 640)) 18446744073709551615) 268435455) (mul (mod (sub (add a2 18446744073709551616) 1) 18446744073709551616) 256)) fun v3=>
 k v3 m t s d
def e39 : FunE := ⟨[.ptr (lay 65) false false, .one (.int .i64)], [.ptr (lay 69) true false], wrapF 2 1 sf39⟩
def i39 : FI := ⟨23, [], [4, 7, 15], [], []⟩
def a39 : An := (.sq .reg (.sq (.sq .reg (.cd .dead .skip)) (.sq .reg .ret)))
theorem q39 : AllN 2 fun l => ∀ m t s d k, R.denF i39 a39 (bodyOf Tryz.f39) Tryz.f39.results.toList e39.ps e39.rs l ⟨m, t, s, d⟩ k = wrapF 2 1 sf39 l ⟨m, t, s, d⟩ k := by
  intro x0 x1 m t s d k
  kernel_rfl
theorem ok39 : FunOK Tryz.prog 39 e39 := fun_ok facts mixed (I := i39) FnsOK.nil Tryz.func39 (by kernel_rfl) (by kernel_rfl) (by kernel_rfl) (an := a39) (by kernel_rfl) (by kernel_rfl) q39
def sf109 : FT 2 1 := fun a1 a2 m t s d k=>
 force a2 fun v3=>
 force (land (shiftRight v3 0) 340282366920938463463374607431768211455) fun v4=>
 sf57 v4 m t s d fun r5 m6 t6 s6 d6=>
 join (fun (r7 m8 t8 s8 d8 : Nat)=>
 okB (ifB (beq r5 1) true (ifB (beq r5 1) false true))<|
 ifB (ifB (beq r5 1) true (beq r7 1)) (
 false)<|
 okB (ifB (beq (add (land (shiftRight s8 (shiftRight (land (shiftRight v3 256) 18446744073709551615) 16)) (sub (shiftLeft 1 (shiftLeft (land (land (shiftRight v3 256) 18446744073709551615) 65535) 3)) 1)) (shiftLeft 1 (shiftLeft (land (land (shiftRight v3 256) 18446744073709551615) 65535) 3))) (add (land (shiftRight s8 0) 0) 1)) true (ifB (beq (add (land (shiftRight s8 (shiftRight (land (shiftRight v3 256) 18446744073709551615) 16)) (sub (shiftLeft 1 (shiftLeft (land (land (shiftRight v3 256) 18446744073709551615) 65535) 3)) 1)) (shiftLeft 1 (shiftLeft (land (land (shiftRight v3 256) 18446744073709551615) 65535) 3))) (add (land (shiftRight s8 0) 0) 1)) false true))<|
 ifB (ifB (beq (add (land (shiftRight s8 (shiftRight (land (shiftRight v3 256) 18446744073709551615) 16)) (sub (shiftLeft 1 (shiftLeft (land (land (shiftRight v3 256) 18446744073709551615) 65535) 3)) 1)) (shiftLeft 1 (shiftLeft (land (land (shiftRight v3 256) 18446744073709551615) 65535) 3))) (add (land (shiftRight s8 0) 0) 1)) true (ble 9223372036854776833 (xor (land (land (shiftRight v3 256) 18446744073709551615) 65535) 9223372036854775808))) (
 false)<|
 okB (ifB (beq a1 0) false true)<|
 okB (ifB (beq a1 0) false true)<|
 ifB (ifB (ble (succ (xor (land (shiftRight (land (shiftRight m8 a1) 18446744073709551615) 28) 131071) 9223372036854775808)) (xor (land (shiftRight m8 (add a1 64)) 18446744073709551615) 9223372036854775808)) false true) (
 false)<|
 okB (ifB (beq a1 0) false true)<|
 force v3 fun v10=>
 okB (beq (land (shiftRight m8 a1) 18446744073709551615) (land (shiftRight m8 a1) 18446744073709551615))<|
 join (fun (r11 m12 t12 s12 d12 : Nat)=>
 okB (ifB (beq a1 0) false true)<|
 force (xor (land (shiftRight m12 a1) 18446744073709551615) r11) fun v14=>
 force (xor m12 (xor (shiftLeft v14 a1) (mod (add v14 a1) 2305843009213693951))) fun m15=>
 k 0 m15 t12 s12 d12) fun J13=>
 appR 6 (land (shiftRight m8 a1) 18446744073709551615) 1 v10 m8 t8 s8 d8 J13) fun J9=>
 ifB (ifB (beq r5 1) false true) (
 force (land (shiftRight v3 128) 340282366920938463463374607431768211455) fun v16=>
 sf57 v16 m6 t6 s6 d6 fun r17 m18 t18 s18 d18=>
 J9 r17 m18 t18 s18 d18)<|
 J9 0 m6 t6 s6 d6
def e109 : FunE := ⟨[.ptr (lay 157) false false, .agg (lay 159)], [.one (.int .i64)], wrapF 2 1 sf109⟩
def i109 : FI := ⟨45, [3, 41], [3, 4, 5, 9, 14, 18, 24], [(57, e57)], []⟩
def a109 : An := (.sq .reg (.sq (.bl (.sq .reg (.cd .dead (.sq .reg (.cd .dead (.sq (.drw [(0, 0), (1, 0), (2, 0), (3, 0), (4, 0), (5, 0), (6, 0), (7, 0), (8, 0), (9, 0), (10, 0)]) (.cd .dead .skip))))))) (.sq (.drw [(0, 0), (1, 0), (2, 0), (3, 0), (4, 0), (5, 0), (6, 2), (7, 1), (8, 0), (9, 0), (10, 1)]) (.sq .reg .ret))))
theorem q109 : AllN 2 fun l => ∀ m t s d k, R.denF i109 a109 (bodyOf Tryz.f109) Tryz.f109.results.toList e109.ps e109.rs l ⟨m, t, s, d⟩ k = wrapF 2 1 sf109 l ⟨m, t, s, d⟩ k := by
  intro x0 x1 m t s d k
  kernel_rfl
theorem ok109 : FunOK Tryz.prog 109 e109 := fun_ok facts mixed (I := i109) (FnsOK.cons ok57 FnsOK.nil) Tryz.func109 (by kernel_rfl) (by kernel_rfl) (by kernel_rfl) (an := a109) (by kernel_rfl) (by kernel_rfl) q109
def sf73 : FT 5 1 := fun a1 a2 a3 a4 a5 m t s d k=>
 force a3 fun v6=>
 force a4 fun v7=>
 ifB (ble 4611686018427387905 a2) (
 false)<|
 okB (ifB (beq a1 0) false true)<|
 force (land (shiftRight m (add a1 128)) 18446744073709551615) fun v8=>
 force (xor (xor (xor v6 (shiftLeft v7 128)) (shiftLeft a5 256)) (shiftLeft (mod (add a2 1) 18446744073709551616) 320)) fun v9=>
 sf109 v8 v9 m t s d fun r10 m11 t11 s11 d11=>
 k r10 m11 t11 s11 d11
def e73 : FunE := ⟨[.ptr (lay 85) false false, .one (.int .u64), .agg (lay 44), .agg (lay 44), .one .str], [.one (.int .i64)], wrapF 5 1 sf73⟩
def i73 : FI := ⟨24, [7, 8], [7, 8, 10, 12], [(109, e109)], []⟩
def a73 : An := (.sq .reg (.sq (.sq .reg (.cd .dead .skip)) (.sq (.drw [(0, 0), (1, 0), (2, 0), (3, 0), (4, 0), (5, 0), (6, 0), (7, 0), (8, 0), (9, 0), (10, 1), (11, 0)]) .ret)))
theorem q73 : AllN 5 fun l => ∀ m t s d k, R.denF i73 a73 (bodyOf Tryz.f73) Tryz.f73.results.toList e73.ps e73.rs l ⟨m, t, s, d⟩ k = wrapF 5 1 sf73 l ⟨m, t, s, d⟩ k := by
  intro x0 x1 x2 x3 x4 m t s d k
  kernel_rfl
theorem ok73 : FunOK Tryz.prog 73 e73 := fun_ok facts mixed (I := i73) (FnsOK.cons ok109 FnsOK.nil) Tryz.func73 (by kernel_rfl) (by kernel_rfl) (by kernel_rfl) (an := a73) (by kernel_rfl) (by kernel_rfl) q73
def sf103 : FT 2 1 := fun a1 a2 m t s d k=>
 okB (ifB (ifB (ble (succ (xor a2 9223372036854775808)) 9223372036854775809) false true) (ifB (beq a1 0) false true) true)<|
 okB (ifB (ble (succ (xor a2 9223372036854775808)) 9223372036854775809) true (ifB (ble (succ (xor a2 9223372036854775808)) 9223372036854775809) false true))<|
 ifB (ifB (ble (succ (xor a2 9223372036854775808)) 9223372036854775809) true (ble (succ (xor (land (shiftRight (land (shiftRight m (add a1 64)) 18446744073709551615) 28) 131071) 9223372036854775808)) (xor a2 9223372036854775808))) (
 k 0 m t s d)<|
 false
def e103 : FunE := ⟨[.ptr (lay 85) false false, .one (.int .i64)], [.ptr (lay 207) false false], wrapF 2 1 sf103⟩
def i103 : FI := ⟨24, [], [4, 7, 15], [], []⟩
def a103 : An := (.sq .reg (.sq (.sq .reg (.cd (.sq .reg .ret) .dead)) .dead))
theorem q103 : AllN 2 fun l => ∀ m t s d k, R.denF i103 a103 (bodyOf Tryz.f103) Tryz.f103.results.toList e103.ps e103.rs l ⟨m, t, s, d⟩ k = wrapF 2 1 sf103 l ⟨m, t, s, d⟩ k := by
  intro x0 x1 m t s d k
  kernel_rfl
theorem ok103 : FunOK Tryz.prog 103 e103 := fun_ok facts mixed (I := i103) FnsOK.nil Tryz.func103 (by kernel_rfl) (by kernel_rfl) (by kernel_rfl) (an := a103) (by kernel_rfl) (by kernel_rfl) q103
def sf86 : FT 5 1 := fun a1 a2 a3 a4 a5 m t s d k=>
 force a4 fun v6=>
 okB (ifB (ifB (ble (succ (xor a3 9223372036854775808)) 9223372036854775809) false true) (ifB (beq a1 0) false true) true)<|
 okB (ifB (ble (succ (xor a3 9223372036854775808)) 9223372036854775809) true (ifB (ble (succ (xor a3 9223372036854775808)) 9223372036854775809) false true))<|
 join (fun (r7 m8 t8 s8 d8 : Nat)=>
 okB (ifB (ifB (ble (succ (xor a3 9223372036854775808)) 9223372036854775809) true (ble (succ (xor (land (shiftRight (land (shiftRight m a1) 18446744073709551615) 28) 131071) 9223372036854775808)) (xor a3 9223372036854775808))) true (ifB (ifB (ble (succ (xor a3 9223372036854775808)) 9223372036854775809) true (ble (succ (xor (land (shiftRight (land (shiftRight m a1) 18446744073709551615) 28) 131071) 9223372036854775808)) (xor a3 9223372036854775808))) false true))<|
 okB (ifB (ifB (ifB (ble (succ (xor a3 9223372036854775808)) 9223372036854775809) true (ble (succ (xor (land (shiftRight (land (shiftRight m a1) 18446744073709551615) 28) 131071) 9223372036854775808)) (xor a3 9223372036854775808))) true (beq r7 1)) true (ifB (ifB (ifB (ble (succ (xor a3 9223372036854775808)) 9223372036854775809) true (ble (succ (xor (land (shiftRight (land (shiftRight m a1) 18446744073709551615) 28) 131071) 9223372036854775808)) (xor a3 9223372036854775808))) true (beq r7 1)) false true))<|
 ifB (ifB (ifB (ifB (ble (succ (xor a3 9223372036854775808)) 9223372036854775809) true (ble (succ (xor (land (shiftRight (land (shiftRight m a1) 18446744073709551615) 28) 131071) 9223372036854775808)) (xor a3 9223372036854775808))) true (beq r7 1)) true (ble 4611686018427387905 a2)) (
 false)<|
 okB (ifB (beq a1 0) false true)<|
 okB (ble (succ (mod (sub (add a3 18446744073709551616) 1) 18446744073709551616)) (land (shiftRight (land (shiftRight m8 a1) 18446744073709551615) 28) 131071))<|
 okB (beq (land (shiftRight d8 (shiftRight (add (land (land (shiftRight m8 a1) 18446744073709551615) 268435455) (mul (mod (sub (add a3 18446744073709551616) 1) 18446744073709551616) 192)) 6)) 7) 0)<|
 force (land (shiftRight m8 (add (land (land (shiftRight m8 a1) 18446744073709551615) 268435455) (mul (mod (sub (add a3 18446744073709551616) 1) 18446744073709551616) 192))) 6277101735386680763835789423207666416102355444464034512895) fun v10=>
 force (land (shiftRight v10 0) 340282366920938463463374607431768211455) fun v11=>
 force (land (shiftRight v10 128) 18446744073709551615) fun v12=>
 sf103 a1 v12 m8 t8 s8 d8 fun r13 m14 t14 s14 d14=>
 ifB (ifB (beq r13 0) false true) (
 false)<|
 force v11 fun v15=>
 force v6 fun v16=>
 sf73 a1 a2 v15 v16 a5 m14 t14 s14 d14 fun r17 m18 t18 s18 d18=>
 k r17 m18 t18 s18 d18) fun J9=>
 ifB (ifB (ifB (ble (succ (xor a3 9223372036854775808)) 9223372036854775809) true (ble (succ (xor (land (shiftRight (land (shiftRight m a1) 18446744073709551615) 28) 131071) 9223372036854775808)) (xor a3 9223372036854775808))) false true) (
 force v6 fun v19=>
 sf57 v19 m t s d fun r20 m21 t21 s21 d21=>
 J9 r20 m21 t21 s21 d21)<|
 J9 0 m t s d
def e86 : FunE := ⟨[.ptr (lay 85) false false, .one (.int .u64), .one (.int .i64), .agg (lay 44), .one .str], [.one (.int .i64)], wrapF 5 1 sf86⟩
def i86 : FI := ⟨64, [8, 11, 12], [8, 10, 11, 12, 13, 16, 25, 29, 32, 48, 49], [(57, e57), (73, e73), (103, e103)], []⟩
def a86 : An := (.sq .reg (.sq (.sq .reg (.cd .dead .skip)) (.sq .reg (.sq .reg (.sq (.sq .reg (.sq .reg (.cd .dead .skip))) (.sq .reg .ret))))))
theorem q86 : AllN 5 fun l => ∀ m t s d k, R.denF i86 a86 (bodyOf Tryz.f86) Tryz.f86.results.toList e86.ps e86.rs l ⟨m, t, s, d⟩ k = wrapF 5 1 sf86 l ⟨m, t, s, d⟩ k := by
  intro x0 x1 x2 x3 x4 m t s d k
  kernel_rfl
theorem ok86 : FunOK Tryz.prog 86 e86 := fun_ok facts mixed (I := i86) (FnsOK.cons ok57 (FnsOK.cons ok73 (FnsOK.cons ok103 FnsOK.nil))) Tryz.func86 (by kernel_rfl) (by kernel_rfl) (by kernel_rfl) (an := a86) (by kernel_rfl) (by kernel_rfl) q86
def sf61 : FT 3 0 := fun a1 a2 a3 m t s d k=>
 join (fun (m4 t4 s4 d4 : Nat)=>
 sf39 a1 a2 m4 t4 s4 d4 fun r6 m7 t7 s7 d7=>
 okB (ifB (beq r6 0) false true)<|
 okB (beq (land (shiftRight d7 (shiftRight r6 6)) 1) 0)<|
 force (land (shiftRight m7 r6) 18446744073709551615) fun v8=>
 sf15 v8 m7 t7 s7 d7 fun r9 m10 t10 s10 d10=>
 force r9 fun v11=>
 okB (ifB (beq r6 0) false true)<|
 okB (beq (land (shiftRight d10 (shiftRight (add r6 128) 6)) 1) 0)<|
 okB (ifB (beq r6 0) false true)<|
 okB (beq (land (shiftRight d10 (shiftRight (add r6 128) 6)) 1) 0)<|
 okB (ble (succ (mod (sub (add (land (shiftRight (land (shiftRight m10 (add r6 128)) 18446744073709551615) 28) 131071) 18446744073709551616) 1) 18446744073709551616)) (land (shiftRight (land (shiftRight m10 (add r6 128)) 18446744073709551615) 28) 131071))<|
 okB (beq (land (shiftRight d10 (shiftRight (add (land (land (shiftRight m10 (add r6 128)) 18446744073709551615) 268435455) (mul (mod (sub (add (land (shiftRight (land (shiftRight m10 (add r6 128)) 18446744073709551615) 28) 131071) 18446744073709551616) 1) 18446744073709551616) 320)) 6)) 31) 0)<|
 ifB (ifB (beq v11 (land (shiftRight m10 (add (land (land (shiftRight m10 (add r6 128)) 18446744073709551615) 268435455) (mul (mod (sub (add (land (shiftRight (land (shiftRight m10 (add r6 128)) 18446744073709551615) 28) 131071) 18446744073709551616) 1) 18446744073709551616) 320))) (mask 5))) false true) (
 okB (ifB (beq r6 0) false true)<|
 okB (beq (land (shiftRight d10 (shiftRight (add r6 128) 6)) 1) 0)<|
 force v11 fun v12=>
 okB (beq (land (shiftRight d10 (shiftRight (add r6 128) 6)) 1) 0)<|
 okB (beq (land (shiftRight m10 (add r6 128)) 18446744073709551615) (land (shiftRight m10 (add r6 128)) 18446744073709551615))<|
 join (fun (r13 m14 t14 s14 d14 : Nat)=>
 okB (ifB (beq r6 0) false true)<|
 okB (beq (land (shiftRight d14 (shiftRight (add r6 128) 6)) 1) 0)<|
 force (xor (land (shiftRight m14 (add r6 128)) 18446744073709551615) r13) fun v16=>
 force (xor m14 (xor (shiftLeft v16 (add r6 128)) (mod (add v16 (add r6 128)) 2305843009213693951))) fun m17=>
 k m17 t14 s14 d14) fun J15=>
 appR 5 (land (shiftRight m10 (add r6 128)) 18446744073709551615) 1 v12 m10 t10 s10 d10 J15)<|
 k m10 t10 s10 d10) fun J5=>
 force (land (shiftRight a3 28) 131071) fun v18=>
 loopN 8 (fun (_ _ _ _ _ : Nat) => false) (fun L21 (p19 m20 t20 s20 d20 : Nat)=>
 ifB (ble (succ (xor p19 9223372036854775808)) (xor v18 9223372036854775808)) (
 okB (ble (succ p19) (land (shiftRight a3 28) 131071))<|
 okB (beq (land (shiftRight d20 (shiftRight (add (land a3 268435455) (mul p19 192)) 6)) 7) 0)<|
 force (land (shiftRight m20 (add (land a3 268435455) (mul p19 192))) 6277101735386680763835789423207666416102355444464034512895) fun v22=>
 okB (ifB (beq a1 0) false true)<|
 okB (ifB (beq a1 0) false true)<|
 force (land (shiftRight m20 (add a1 704)) 18446744073709551615) fun v23=>
 force (land (shiftRight m20 (add a1 512)) 18446744073709551615) fun v24=>
 force (land (shiftRight v22 0) 340282366920938463463374607431768211455) fun v25=>
 force (land (shiftRight v22 128) 18446744073709551615) fun v26=>
 sf86 v23 v24 a2 v25 v26 m20 t20 s20 d20 fun r27 m28 t28 s28 d28=>
 force (mod (add p19 1) 18446744073709551616) fun v29=>
 L21 v29 m28 t28 s28 d28)<|
 J5 m20 t20 s20 d20) 0 m t s d
def e61 : FunE := ⟨[.ptr (lay 65) false false, .one (.int .i64), .sli (lay 210)], [], wrapF 3 0 sf61⟩
def i61 : FI := ⟨63, [7, 9, 59], [7, 8, 9, 10, 11, 12, 13, 52], [(15, e15), (39, e39), (86, e86)], []⟩
def a61 : An := (.sj [] (.sq .reg (.bl (.lp [(12, .sh (.one (.int .i64)))] 8 (.sq .reg (.sq (.cd .skip .ex) (.sq (.bl (.sq .reg (.drw [(0, 0), (1, 0), (2, 0), (3, 0), (4, 0), (5, 0), (6, 0), (7, 0), (8, 0), (9, 0), (10, 0), (11, 0), (12, 0), (13, 1)]))) .reg)))))) (.sq .reg (.sq .reg (.sq (.drw [(0, 0), (1, 0), (2, 0), (3, 0), (4, 0), (5, 0), (6, 0), (7, 0), (8, 0), (9, 0), (10, 0), (11, 0), (12, 0), (13, 0)]) (.cd (.drw [(0, 0), (1, 0), (2, 0), (3, 0), (4, 0), (5, 0), (6, 2), (7, 1), (8, 0), (9, 0), (10, 1)]) .skip)))))
theorem q61 : AllN 3 fun l => ∀ m t s d k, R.denF i61 a61 (bodyOf Tryz.f61) Tryz.f61.results.toList e61.ps e61.rs l ⟨m, t, s, d⟩ k = wrapF 3 0 sf61 l ⟨m, t, s, d⟩ k := by
  intro x0 x1 x2 m t s d k
  kernel_rfl
theorem ok61 : FunOK Tryz.prog 61 e61 := fun_ok facts mixed (I := i61) (FnsOK.cons ok15 (FnsOK.cons ok39 (FnsOK.cons ok86 FnsOK.nil))) Tryz.func61 (by kernel_rfl) (by kernel_rfl) (by kernel_rfl) (an := a61) (by kernel_rfl) (by kernel_rfl) q61
def sf162 : FT 1 1 := fun a1 m t s d k=>
 force a1 fun v2=>
 force (mod (add (land (shiftRight (land (shiftRight v2 256) 18446744073709551615) 28) 131071) 1) 18446744073709551616) fun v3=>
 okB (ble 1 v3)<|
 force (mod (add (land (shiftRight v2 128) 18446744073709551615) (div (mod (sub (add (mod (add (land (shiftRight v2 192) 18446744073709551615) v3) 18446744073709551616) 18446744073709551616) 1) 18446744073709551616) v3)) 18446744073709551616) fun v4=>
 k v4 m t s d
def e162 : FunE := ⟨[.agg (lay 171)], [.one (.int .u64)], wrapF 1 1 sf162⟩
def i162 : FI := ⟨19, [1], [1, 2, 3], [], []⟩
def a162 : An := (.sq .reg (.sq .reg (.sq (.drw [(0, 0), (1, 0), (2, 0), (3, 0), (4, 0), (5, 0), (6, 0), (7, 0), (8, 0), (9, 0), (10, 0)]) .ret)))
theorem q162 : AllN 1 fun l => ∀ m t s d k, R.denF i162 a162 (bodyOf Tryz.f162) Tryz.f162.results.toList e162.ps e162.rs l ⟨m, t, s, d⟩ k = wrapF 1 1 sf162 l ⟨m, t, s, d⟩ k := by
  intro x0 m t s d k
  kernel_rfl
theorem ok162 : FunOK Tryz.prog 162 e162 := fun_ok facts mixed (I := i162) FnsOK.nil Tryz.func162 (by kernel_rfl) (by kernel_rfl) (by kernel_rfl) (an := a162) (by kernel_rfl) (by kernel_rfl) q162
def sf161 : FT 2 1 := fun a1 a2 m t s d k=>
 force a1 fun v3=>
 force v3 fun v4=>
 sf162 v4 m t s d fun r5 m6 t6 s6 d6=>
 okB (beq (land (shiftRight m6 a2) 18446744073709551615) (land (shiftRight m a2) 18446744073709551615))<|
 force (ifB (ifB (ble (succ (land (shiftRight m a2) 18446744073709551615)) r5) false true) 1 0) fun v7=>
 k v7 m6 t6 s6 d6
def e161 : FunE := ⟨[.agg (lay 171), .ptr ([.int .u64]) false true], [.one .bool], wrapF 2 1 sf161⟩
def i161 : FI := ⟨8, [2], [2, 3], [(162, e162)], []⟩
def a161 : An := (.sq .reg (.sq (.drw [(0, 0), (2, 0), (1, 1), (3, 0), (4, 0)]) .ret))
theorem q161 : AllN 2 fun l => ∀ m t s d k, R.denF i161 a161 (bodyOf Tryz.f161) Tryz.f161.results.toList e161.ps e161.rs l ⟨m, t, s, d⟩ k = wrapF 2 1 sf161 l ⟨m, t, s, d⟩ k := by
  intro x0 x1 m t s d k
  kernel_rfl
theorem ok161 : FunOK Tryz.prog 161 e161 := fun_ok facts mixed (I := i161) (FnsOK.cons ok162 FnsOK.nil) Tryz.func161 (by kernel_rfl) (by kernel_rfl) (by kernel_rfl) (an := a161) (by kernel_rfl) (by kernel_rfl) q161
def sf235 : FT 1 1 := fun a1 m t s d k=>
 ifB (beq a1 0) (
 k 0 m t s d)<|
 okB (beq (land (shiftRight d (shiftRight (land a1 268435455) 6)) (sub (shiftLeft 1 (mul (land (shiftRight a1 28) 131071) 1)) 1)) 0)<|
 join (fun (r2 m3 t3 s3 d3 : Nat)=>
 k r2 m3 t3 s3 d3) fun J4=>
 appR 1 (add (shiftLeft t 6) 4611686018427387904) (land (shiftRight a1 28) 131071) (land (shiftRight m (land a1 268435455)) (mask (mul (land (shiftRight a1 28) 131071) 1))) m t s d J4
def e235 : FunE := ⟨[.sli ([.int .i64])], [.sli ([.int .i64])], wrapF 1 1 sf235⟩
def i235 : FI := ⟨8, [], [2, 4], [], []⟩
def a235 : An := (.sq .reg (.sq (.sq .reg (.cd (.sq .reg .ret) .skip)) (.sq .reg .ret)))
theorem q235 : AllN 1 fun l => ∀ m t s d k, R.denF i235 a235 (bodyOf Tryz.f235) Tryz.f235.results.toList e235.ps e235.rs l ⟨m, t, s, d⟩ k = wrapF 1 1 sf235 l ⟨m, t, s, d⟩ k := by
  intro x0 m t s d k
  kernel_rfl
theorem ok235 : FunOK Tryz.prog 235 e235 := fun_ok facts mixed (I := i235) FnsOK.nil Tryz.func235 (by kernel_rfl) (by kernel_rfl) (by kernel_rfl) (an := a235) (by kernel_rfl) (by kernel_rfl) q235
def sf160 : FT 3 1 := fun a1 a2 a3 m t s d k=>
 join (loopN 35 (fun (_ _ _ _ _ _ : Nat) => false) (fun L7 (p4 p5 m6 t6 s6 d6 : Nat)=>
 force (mod (add p5 1) 18446744073709551616) fun v9=>
 ifB (ble 9223372036854775841 (xor v9 9223372036854775808)) (
 k p4 m6 t6 s6 d6)<|
 okB (ifB (beq a1 0) false true)<|
 okB (ble (succ v9) 33)<|
 force (land (shiftRight m6 (add a1 (mul v9 320))) (mask 5)) fun v10=>
 join (fun (r11 m12 t12 s12 d12 : Nat)=>
 okB (ifB (beq (land (shiftRight v10 0) 18446744073709551615) 0) true (ifB (beq (land (shiftRight v10 0) 18446744073709551615) 0) false true))<|
 ifB (ifB (beq (land (shiftRight v10 0) 18446744073709551615) 0) true (ifB (beq r11 1) false true)) (
 L7 p4 v9 m12 t12 s12 d12)<|
 force (land (shiftRight v10 256) 18446744073709551615) fun v14=>
 sf235 v14 m12 t12 s12 d12 fun r15 m16 t16 s16 d16=>
 force (xor v10 (shiftLeft (xor (land (shiftRight v10 256) 18446744073709551615) r15) 256)) fun v17=>
 force v17 fun v18=>
 join (fun (r19 m20 t20 s20 d20 : Nat)=>
 ifB (beq a3 1) (
 okB (ifB (beq a1 0) false true)<|
 okB (ble (succ v9) 33)<|
 force (xor (land (shiftRight m20 (add a1 (mul v9 320))) (mask 5)) 0) fun v22=>
 force (xor m20 (xor (shiftLeft v22 (add a1 (mul v9 320))) (mod (add v22 (add a1 (mul v9 320))) 2305843009213693951))) fun m23=>
 L7 r19 v9 m23 t20 s20 d20)<|
 false) fun J21=>
 appR 5 p4 1 v18 m16 t16 s16 d16 J21) fun J13=>
 ifB (ifB (beq (land (shiftRight v10 0) 18446744073709551615) 0) false true) (
 ifB (beq (land a2 1023) 162) (
 force v10 fun v24=>
 force (shiftLeft (land (shiftRight a2 10) 4194303) 6) fun v25=>
 sf161 v24 v25 m6 t6 s6 d6 fun r26 m27 t27 s27 d27=>
 J13 r26 m27 t27 s27 d27)<|
 false)<|
 J13 0 m6 t6 s6 d6)) fun J8=>
 force 1 fun v28=>
 ifB (ble 9223372036854775841 (xor v28 9223372036854775808)) (
 k 0 m t s d)<|
 okB (ifB (beq a1 0) false true)<|
 okB (ble (succ v28) 33)<|
 force (land (shiftRight m (add a1 (mul v28 320))) (mask 5)) fun v29=>
 join (fun (r30 m31 t31 s31 d31 : Nat)=>
 okB (ifB (beq (land (shiftRight v29 0) 18446744073709551615) 0) true (ifB (beq (land (shiftRight v29 0) 18446744073709551615) 0) false true))<|
 ifB (ifB (beq (land (shiftRight v29 0) 18446744073709551615) 0) true (ifB (beq r30 1) false true)) (
 J8 0 v28 m31 t31 s31 d31)<|
 force (land (shiftRight v29 256) 18446744073709551615) fun v33=>
 sf235 v33 m31 t31 s31 d31 fun r34 m35 t35 s35 d35=>
 force (xor v29 (shiftLeft (xor (land (shiftRight v29 256) 18446744073709551615) r34) 256)) fun v36=>
 force v36 fun v37=>
 join (fun (r38 m39 t39 s39 d39 : Nat)=>
 ifB (beq a3 1) (
 okB (ifB (beq a1 0) false true)<|
 okB (ble (succ v28) 33)<|
 force (xor (land (shiftRight m39 (add a1 (mul v28 320))) (mask 5)) 0) fun v41=>
 force (xor m39 (xor (shiftLeft v41 (add a1 (mul v28 320))) (mod (add v41 (add a1 (mul v28 320))) 2305843009213693951))) fun m42=>
 J8 r38 v28 m42 t39 s39 d39)<|
 false) fun J40=>
 appR 5 0 1 v37 m35 t35 s35 d35 J40) fun J32=>
 ifB (ifB (beq (land (shiftRight v29 0) 18446744073709551615) 0) false true) (
 ifB (beq (land a2 1023) 162) (
 force v29 fun v43=>
 force (shiftLeft (land (shiftRight a2 10) 4194303) 6) fun v44=>
 sf161 v43 v44 m t s d fun r45 m46 t46 s46 d46=>
 J32 r45 m46 t46 s46 d46)<|
 false)<|
 J32 0 m t s d
def e160 : FunE := ⟨[.ptr (lay 172) false false, .one .fn, .one .bool], [.sli (lay 171)], wrapF 3 1 sf160⟩
def i160 : FI := ⟨45, [9, 36], [6, 7, 8, 9, 13, 24, 29, 38], [(161, e161), (235, e235)], [(27, [161])]⟩
def a160 : An := (.sq .reg (.sc (.lb 0 [(7, .sh (.sli (lay 171))), (8, .sh (.one (.int .i64)))] 35 (.sq .skip (.sq (.sq .reg (.sq .reg (.cd (.sq .reg .ret) .skip))) (.sq .reg (.sq (.sq .reg (.cd .go .skip)) (.sq .reg (.sq .reg (.sq (.sq .reg (.cd .reg .dead)) .go))))))) (.sq .reg (.sq .reg (.sq .skip (.sq (.sq .reg (.sq .reg (.cd (.sq .reg .ret) .skip))) (.sq .reg (.sq (.sq .reg (.cd .go .skip)) (.sq .reg (.sq .reg (.sq (.sq .reg (.cd .reg .dead)) .go))))))))))))
theorem q160 : AllN 3 fun l => ∀ m t s d k, R.denF i160 a160 (bodyOf Tryz.f160) Tryz.f160.results.toList e160.ps e160.rs l ⟨m, t, s, d⟩ k = wrapF 3 1 sf160 l ⟨m, t, s, d⟩ k := by
  intro x0 x1 x2 m t s d k
  kernel_rfl
theorem ok160 : FunOK Tryz.prog 160 e160 := fun_ok facts mixed (I := i160) (FnsOK.cons ok161 (FnsOK.cons ok235 FnsOK.nil)) Tryz.func160 (by kernel_rfl) (by kernel_rfl) (by kernel_rfl) (an := a160) (by kernel_rfl) (by kernel_rfl) q160
def sf114 : FT 2 1 := fun a1 a2 m t s d k=>
 force (shiftLeft t 6) fun v3=>
 force (add t 1) fun t4=>
 okB (ble (succ t4) 4194304)<|
 force (xor m (xor (shiftLeft a2 (shiftLeft t 6)) (mod (add a2 t) 2305843009213693951))) fun m5=>
 okB (ifB (beq v3 0) false (ble (succ v3) 268435456))<|
 force (add 162 (shiftLeft (shiftRight v3 6) 10)) fun v6=>
 force (ifB true 1 0) fun v7=>
 sf160 a1 v6 v7 m5 t4 s d fun r8 m9 t9 s9 d9=>
 k r8 m9 t9 s9 d9
def e114 : FunE := ⟨[.ptr (lay 172) false false, .one (.int .u64)], [.sli (lay 171)], wrapF 2 1 sf114⟩
def i114 : FI := ⟨8, [], [3, 4], [(160, e160)], []⟩
def a114 : An := (.sq .reg (.sq .reg .ret))
theorem q114 : AllN 2 fun l => ∀ m t s d k, R.denF i114 a114 (bodyOf Tryz.f114) Tryz.f114.results.toList e114.ps e114.rs l ⟨m, t, s, d⟩ k = wrapF 2 1 sf114 l ⟨m, t, s, d⟩ k := by
  intro x0 x1 m t s d k
  kernel_rfl
theorem ok114 : FunOK Tryz.prog 114 e114 := fun_ok facts mixed (I := i114) (FnsOK.cons ok160 FnsOK.nil) Tryz.func114 (by kernel_rfl) (by kernel_rfl) (by kernel_rfl) (an := a114) (by kernel_rfl) (by kernel_rfl) q114
def sf16 : FT 1 1 := fun a1 m t s d k=>
 force a1 fun v2=>
 okB (ifB (beq (land (shiftRight v2 64) 18446744073709551615) 0) true (ifB (beq (land (shiftRight v2 64) 18446744073709551615) 0) false true))<|
 force (ifB (ifB (beq (land (shiftRight v2 64) 18446744073709551615) 0) true (beq (land (shiftRight v2 64) 18446744073709551615) 1)) 1 0) fun v3=>
 k v3 m t s d
def e16 : FunE := ⟨[.agg (lay 53)], [.one .bool], wrapF 1 1 sf16⟩
def i16 : FI := ⟨11, [1], [1, 2, 6], [], []⟩
def a16 : An := (.sq .reg (.sq .reg .ret))
theorem q16 : AllN 1 fun l => ∀ m t s d k, R.denF i16 a16 (bodyOf Tryz.f16) Tryz.f16.results.toList e16.ps e16.rs l ⟨m, t, s, d⟩ k = wrapF 1 1 sf16 l ⟨m, t, s, d⟩ k := by
  intro x0 m t s d k
  kernel_rfl
theorem ok16 : FunOK Tryz.prog 16 e16 := fun_ok facts mixed (I := i16) FnsOK.nil Tryz.func16 (by kernel_rfl) (by kernel_rfl) (by kernel_rfl) (an := a16) (by kernel_rfl) (by kernel_rfl) q16
def sf163 : FT 2 0 := fun a1 a2 m t s d k=>
 force a2 fun v3=>
 okB (ifB (beq a1 0) false true)<|
 force v3 fun v4=>
 force (land (shiftRight m (add a1 640)) (mask 5)) fun v5=>
 sf81 v4 v5 m t s d fun r6 m7 t7 s7 d7=>
 okB (ifB (beq r6 1) (beq r6 1) true)<|
 ifB (ifB (beq r6 1) (ble (succ (land (shiftRight v3 128) 18446744073709551615)) 4294967295) false) (
 false)<|
 k m7 t7 s7 d7
def e163 : FunE := ⟨[.ptr (lay 104) false false, .agg (lay 53)], [], wrapF 2 0 sf163⟩
def i163 : FI := ⟨25, [3], [3, 10, 14], [(81, e81)], []⟩
def a163 : An := (.sq .reg (.sq (.drw [(0, 0), (1, 0), (2, 0), (3, 0), (4, 0), (5, 1), (6, 0), (7, 0), (8, 0), (9, 0), (10, 0)]) (.cd .dead .skip)))
theorem q163 : AllN 2 fun l => ∀ m t s d k, R.denF i163 a163 (bodyOf Tryz.f163) Tryz.f163.results.toList e163.ps e163.rs l ⟨m, t, s, d⟩ k = wrapF 2 0 sf163 l ⟨m, t, s, d⟩ k := by
  intro x0 x1 m t s d k
  kernel_rfl
theorem ok163 : FunOK Tryz.prog 163 e163 := fun_ok facts mixed (I := i163) (FnsOK.cons ok81 FnsOK.nil) Tryz.func163 (by kernel_rfl) (by kernel_rfl) (by kernel_rfl) (an := a163) (by kernel_rfl) (by kernel_rfl) q163
def sf17 : FT 1 1 := fun a1 m t s d k=>
 join (fun (p2 m3 t3 s3 d3 : Nat)=>
 k p2 m3 t3 s3 d3) fun J4=>
 okB (ifB (beq a1 0) false true)<|
 force (land (shiftRight m a1) (mask 165)) fun v5=>
 loopN 37 (fun (_ _ _ _ _ _ : Nat) => false) (fun L9 (p6 p7 m8 t8 s8 d8 : Nat)=>
 ifB (ble (succ (xor p7 9223372036854775808)) 9223372036854775841) (
 join (fun (p10 m11 t11 s11 d11 : Nat)=>
 force (mod (add p7 1) 18446744073709551616) fun v13=>
 L9 p10 v13 m11 t11 s11 d11) fun J12=>
 okB (ble (succ p7) 33)<|
 force (land (shiftRight v5 (mul p7 320)) (mask 5)) fun v14=>
 ifB (ble 9223372036854775809 (xor (land (shiftRight v14 0) 18446744073709551615) 9223372036854775808)) (
 force v14 fun v15=>
 join (fun (r16 m17 t17 s17 d17 : Nat)=>
 J12 r16 m17 t17 s17 d17) fun J18=>
 appR 5 p6 1 v15 m8 t8 s8 d8 J18)<|
 J12 p6 m8 t8 s8 d8)<|
 J4 p6 m8 t8 s8 d8) 0 0 m t s d
def e17 : FunE := ⟨[.ptr (lay 108) false false], [.sli (lay 53)], wrapF 1 1 sf17⟩
def i17 : FI := ⟨22, [5, 18], [2, 3, 5, 9, 10, 11, 15], [], []⟩
def a17 : An := (.sq .reg (.sq .reg (.sj [(3, .sh (.sli (lay 53)))] (.sq .reg (.bl (.lp [(3, .sh (.sli (lay 53))), (10, .sh (.one (.int .i64)))] 37 (.sq .reg (.sq (.cd .skip .ex) (.sj [(3, .sh (.sli (lay 53)))] (.bl (.sq .reg (.sq .reg (.cd .reg .skip)))) .reg)))))) (.sq .reg .ret))))
theorem q17 : AllN 1 fun l => ∀ m t s d k, R.denF i17 a17 (bodyOf Tryz.f17) Tryz.f17.results.toList e17.ps e17.rs l ⟨m, t, s, d⟩ k = wrapF 1 1 sf17 l ⟨m, t, s, d⟩ k := by
  intro x0 m t s d k
  kernel_rfl
theorem ok17 : FunOK Tryz.prog 17 e17 := fun_ok facts mixed (I := i17) FnsOK.nil Tryz.func17 (by kernel_rfl) (by kernel_rfl) (by kernel_rfl) (an := a17) (by kernel_rfl) (by kernel_rfl) q17
def sf287 : FT 1 1 := fun a1 m t s d k=>
 ifB (beq a1 0) (
 k 0 m t s d)<|
 okB (beq (land (shiftRight d (shiftRight (land a1 268435455) 6)) (sub (shiftLeft 1 (mul (land (shiftRight a1 28) 131071) 6)) 1)) 0)<|
 join (fun (r2 m3 t3 s3 d3 : Nat)=>
 k r2 m3 t3 s3 d3) fun J4=>
 appR 6 (add (shiftLeft t 6) 4611686018427387904) (land (shiftRight a1 28) 131071) (land (shiftRight m (land a1 268435455)) (mask (mul (land (shiftRight a1 28) 131071) 6))) m t s d J4
def e287 : FunE := ⟨[.sli (lay 368)], [.sli (lay 368)], wrapF 1 1 sf287⟩
def i287 : FI := ⟨8, [], [2, 4], [], []⟩
def a287 : An := (.sq .reg (.sq (.sq .reg (.cd (.sq .reg .ret) .skip)) (.sq .reg .ret)))
theorem q287 : AllN 1 fun l => ∀ m t s d k, R.denF i287 a287 (bodyOf Tryz.f287) Tryz.f287.results.toList e287.ps e287.rs l ⟨m, t, s, d⟩ k = wrapF 1 1 sf287 l ⟨m, t, s, d⟩ k := by
  intro x0 m t s d k
  kernel_rfl
theorem ok287 : FunOK Tryz.prog 287 e287 := fun_ok facts mixed (I := i287) FnsOK.nil Tryz.func287 (by kernel_rfl) (by kernel_rfl) (by kernel_rfl) (an := a287) (by kernel_rfl) (by kernel_rfl) q287
def sf302 : FT 1 1 := fun a1 m t s d k=>
 ifB (ifB (ble (succ a1) 4294967296) false true) (
 false)<|
 ifB (ifB (ble (succ a1) 65536) false true) (
 false)<|
 ifB (ifB (ble (succ a1) 256) false true) (
 false)<|
 okB (ble (succ (mod a1 256)) 256)<|
 force (mod (add 0 (land (shiftRight s (add 232 (shiftLeft (mod a1 256) 3))) 255)) 18446744073709551616) fun v2=>
 k v2 m t s d
def e302 : FunE := ⟨[.one (.int .u64)], [.one (.int .i64)], wrapF 1 1 sf302⟩
def i302 : FI := ⟨25, [], [0, 2, 4, 8, 14], [], []⟩
def a302 : An := (.sq .reg (.sq (.sq .reg (.cd .dead .skip)) (.sq (.sq .reg (.cd .dead .skip)) (.sq (.sq .reg (.cd .dead .skip)) (.sq .reg .ret)))))
theorem q302 : AllN 1 fun l => ∀ m t s d k, R.denF i302 a302 (bodyOf Tryz.f302) Tryz.f302.results.toList e302.ps e302.rs l ⟨m, t, s, d⟩ k = wrapF 1 1 sf302 l ⟨m, t, s, d⟩ k := by
  intro x0 m t s d k
  kernel_rfl
theorem ok302 : FunOK Tryz.prog 302 e302 := fun_ok facts mixed (I := i302) FnsOK.nil Tryz.func302 (by kernel_rfl) (by kernel_rfl) (by kernel_rfl) (an := a302) (by kernel_rfl) (by kernel_rfl) q302
def sf254 : FT 1 1 := fun a1 m t s d k=>
 ifB false (
 false)<|
 sf302 a1 m t s d fun r2 m3 t3 s3 d3=>
 k r2 m3 t3 s3 d3
def e254 : FunE := ⟨[.one (.int .u64)], [.one (.int .i64)], wrapF 1 1 sf254⟩
def i254 : FI := ⟨8, [], [2], [(302, e302)], []⟩
def a254 : An := (.sq .reg (.sq (.cd .dead .skip) (.sq .reg .ret)))
theorem q254 : AllN 1 fun l => ∀ m t s d k, R.denF i254 a254 (bodyOf Tryz.f254) Tryz.f254.results.toList e254.ps e254.rs l ⟨m, t, s, d⟩ k = wrapF 1 1 sf254 l ⟨m, t, s, d⟩ k := by
  intro x0 m t s d k
  kernel_rfl
theorem ok254 : FunOK Tryz.prog 254 e254 := fun_ok facts mixed (I := i254) (FnsOK.cons ok302 FnsOK.nil) Tryz.func254 (by kernel_rfl) (by kernel_rfl) (by kernel_rfl) (an := a254) (by kernel_rfl) (by kernel_rfl) q254
def sf324 : FT 4 0 := fun a1 a2 a3 a4 m t s d k=>
 force (mod (add a2 1) 18446744073709551616) fun v5=>
 loopN 4 (fun (_ _ _ _ _ : Nat) => false) (fun L8 (p6 m7 t7 s7 d7 : Nat)=>
 ifB (ble (succ (xor p6 9223372036854775808)) (xor a3 9223372036854775808)) (
 false)<|
 k m7 t7 s7 d7) v5 m t s d
def e324 : FunE := ⟨[.sli (lay 368), .one (.int .i64), .one (.int .i64), .one .fn], [], wrapF 4 0 sf324⟩
def i324 : FI := ⟨53, [], [8, 9, 14, 21, 34], [], []⟩
def a324 : An := (.sq .reg (.bl (.lp [(8, .sh (.one (.int .i64)))] 4 (.sq (.sq .reg (.cd .dead .ex)) .dead))))
theorem q324 : AllN 4 fun l => ∀ m t s d k, R.denF i324 a324 (bodyOf Tryz.f324) Tryz.f324.results.toList e324.ps e324.rs l ⟨m, t, s, d⟩ k = wrapF 4 0 sf324 l ⟨m, t, s, d⟩ k := by
  intro x0 x1 x2 x3 m t s d k
  kernel_rfl
theorem ok324 : FunOK Tryz.prog 324 e324 := fun_ok facts mixed (I := i324) FnsOK.nil Tryz.func324 (by kernel_rfl) (by kernel_rfl) (by kernel_rfl) (an := a324) (by kernel_rfl) (by kernel_rfl) q324
def sf314 : FT 5 0 := fun a1 a2 a3 a4 a5 m t s d k=>
 force (ifB true 1 0) fun v15=>
 force (ifB true 1 0) fun v16=>
 loopN 4 (fun (_ _ _ _ _ _ _ _ _ : Nat) => false) (fun L12 (p6 p7 p8 p9 p10 m11 t11 s11 d11 : Nat)=>
 force (mod (sub (add p7 18446744073709551616) p6) 18446744073709551616) fun v13=>
 ifB (ifB (ble 9223372036854775821 (xor v13 9223372036854775808)) false true) (
 sf324 a1 p6 p7 a5 m11 t11 s11 d11 fun m14 t14 s14 d14=>
 k m14 t14 s14 d14)<|
 false) a2 a3 a4 v15 v16 m t s d
def e314 : FunE := ⟨[.sli (lay 368), .one (.int .i64), .one (.int .i64), .one (.int .i64), .one .fn], [], wrapF 5 0 sf314⟩
def i314 : FI := ⟨148, [], [1, 2, 3, 10, 11, 12, 13, 14, 15, 16, 17, 18, 19, 20, 25, 32, 39, 47, 56, 69, 72, 75, 80, 83, 97, 105, 125], [(324, e324)], []⟩
def a314 : An := (.sq .reg (.sq .reg (.bl (.lp [(1, .sh (.one (.int .i64))), (2, .sh (.one (.int .i64))), (3, .sh (.one (.int .i64))), (10, .sh (.one .bool)), (11, .sh (.one .bool))] 4 (.bl (.sq .reg (.sq (.sq .reg (.cd (.sq .reg .ret) .dead)) .dead)))))))
theorem q314 : AllN 5 fun l => ∀ m t s d k, R.denF i314 a314 (bodyOf Tryz.f314) Tryz.f314.results.toList e314.ps e314.rs l ⟨m, t, s, d⟩ k = wrapF 5 0 sf314 l ⟨m, t, s, d⟩ k := by
  intro x0 x1 x2 x3 x4 m t s d k
  kernel_rfl
theorem ok314 : FunOK Tryz.prog 314 e314 := fun_ok facts mixed (I := i314) (FnsOK.cons ok324 FnsOK.nil) Tryz.func314 (by kernel_rfl) (by kernel_rfl) (by kernel_rfl) (an := a314) (by kernel_rfl) (by kernel_rfl) q314
def sf288 : FT 2 0 := fun a1 a2 m t s d k=>
 force (land (shiftRight a1 28) 131071) fun v3=>
 sf254 v3 m t s d fun r4 m5 t5 s5 d5=>
 sf314 a1 0 v3 r4 a2 m5 t5 s5 d5 fun m6 t6 s6 d6=>
 k m6 t6 s6 d6
def e288 : FunE := ⟨[.sli (lay 368), .one .fn], [], wrapF 2 0 sf288⟩
def i288 : FI := ⟨14, [], [4], [(254, e254), (314, e314)], []⟩
def a288 : An := (.sq .reg .reg)
theorem q288 : AllN 2 fun l => ∀ m t s d k, R.denF i288 a288 (bodyOf Tryz.f288) Tryz.f288.results.toList e288.ps e288.rs l ⟨m, t, s, d⟩ k = wrapF 2 0 sf288 l ⟨m, t, s, d⟩ k := by
  intro x0 x1 m t s d k
  kernel_rfl
theorem ok288 : FunOK Tryz.prog 288 e288 := fun_ok facts mixed (I := i288) (FnsOK.cons ok254 (FnsOK.cons ok314 FnsOK.nil)) Tryz.func288 (by kernel_rfl) (by kernel_rfl) (by kernel_rfl) (an := a288) (by kernel_rfl) (by kernel_rfl) q288
def sf242 : FT 1 1 := fun a1 m t s d k=>
 okB (ifB (beq a1 0) false true)<|
 force (land (shiftRight m a1) 18446744073709551615) fun v2=>
 sf287 v2 m t s d fun r3 m4 t4 s4 d4=>
 sf288 r3 290 m4 t4 s4 d4 fun m5 t5 s5 d5=>
 k r3 m5 t5 s5 d5
def e242 : FunE := ⟨[.ptr (lay 177) false false], [.sli (lay 368)], wrapF 1 1 sf242⟩
def i242 : FI := ⟨12, [], [2, 3], [(287, e287), (288, e288)], []⟩
def a242 : An := (.sq .reg (.sq .reg (.sq .reg (.sq .reg .ret))))
theorem q242 : AllN 1 fun l => ∀ m t s d k, R.denF i242 a242 (bodyOf Tryz.f242) Tryz.f242.results.toList e242.ps e242.rs l ⟨m, t, s, d⟩ k = wrapF 1 1 sf242 l ⟨m, t, s, d⟩ k := by
  intro x0 m t s d k
  kernel_rfl
theorem ok242 : FunOK Tryz.prog 242 e242 := fun_ok facts mixed (I := i242) (FnsOK.cons ok287 (FnsOK.cons ok288 FnsOK.nil)) Tryz.func242 (by kernel_rfl) (by kernel_rfl) (by kernel_rfl) (an := a242) (by kernel_rfl) (by kernel_rfl) q242
def sf282 : FT 3 1 := fun a1 a2 a3 m t s d k=>
 okB (ifB (ble a2 a3) (ifB (ble a3 (land (shiftRight a1 28) 131071)) (ble (land (shiftRight a1 28) 131071) (land (shiftRight a1 45) 131071)) false) false)<|
 ifB (beq a2 a3) (
 false)<|
 force (land (shiftRight a1 28) 131071) fun v4=>
 okB (ifB (ble 0 a2) (ble a2 (land (shiftRight a1 45) 131071)) false)<|
 okB (ifB (ble a3 (land (shiftRight a1 28) 131071)) (ble (land (shiftRight a1 28) 131071) (land (shiftRight a1 45) 131071)) false)<|
 okB (beq (land (shiftRight d (shiftRight (land (ifB (beq (land a1 268435455) 0) a1 (ifB (beq (add (sub (land (shiftRight a1 45) 131071) a3) (shiftRight a1 62)) 0) 9223372036854775808 (add (add (land a1 268435455) (mul a3 384)) (shiftLeft (add (sub (land (shiftRight a1 28) 131071) a3) (shiftLeft (add (sub (land (shiftRight a1 45) 131071) a3) (shiftLeft (shiftRight a1 62) 17)) 17)) 28)))) 268435455) 6)) (sub (shiftLeft 1 (mul (land (shiftRight (ifB (beq (land a1 268435455) 0) a1 (ifB (beq (add (sub (land (shiftRight a1 45) 131071) a3) (shiftRight a1 62)) 0) 9223372036854775808 (add (add (land a1 268435455) (mul a3 384)) (shiftLeft (add (sub (land (shiftRight a1 28) 131071) a3) (shiftLeft (add (sub (land (shiftRight a1 45) 131071) a3) (shiftLeft (shiftRight a1 62) 17)) 17)) 28)))) 28) 131071) 6)) 1)) 0)<|
 join (fun (r5 m6 t6 s6 d6 : Nat)=>
 okB (ifB (ble (land (shiftRight r5 28) 131071) v4) (ble v4 (land (shiftRight r5 45) 131071)) false)<|
 join (fun (m8 t8 s8 d8 : Nat)=>
 k r5 m8 t8 s8 d8) fun J9=>
 clrR (ifB (beq (land r5 268435455) 0) r5 (ifB (beq (add (sub (land (shiftRight r5 45) 131071) (land (shiftRight r5 28) 131071)) (shiftRight r5 62)) 0) 9223372036854775808 (add (add (land r5 268435455) (mul (land (shiftRight r5 28) 131071) 384)) (shiftLeft (add (sub v4 (land (shiftRight r5 28) 131071)) (shiftLeft (add (sub (land (shiftRight r5 45) 131071) (land (shiftRight r5 28) 131071)) (shiftLeft (shiftRight r5 62) 17)) 17)) 28)))) 6 m6 t6 s6 d6 J9) fun J7=>
 appR 6 (ifB (beq (land a1 268435455) 0) a1 (ifB (beq (add (sub (land (shiftRight a1 45) 131071) 0) (shiftRight a1 62)) 0) 9223372036854775808 (add (land a1 268435455) (shiftLeft (add (sub a2 0) (shiftLeft (add (sub (land (shiftRight a1 45) 131071) 0) (shiftLeft (shiftRight a1 62) 17)) 17)) 28)))) (land (shiftRight (ifB (beq (land a1 268435455) 0) a1 (ifB (beq (add (sub (land (shiftRight a1 45) 131071) a3) (shiftRight a1 62)) 0) 9223372036854775808 (add (add (land a1 268435455) (mul a3 384)) (shiftLeft (add (sub (land (shiftRight a1 28) 131071) a3) (shiftLeft (add (sub (land (shiftRight a1 45) 131071) a3) (shiftLeft (shiftRight a1 62) 17)) 17)) 28)))) 28) 131071) (land (shiftRight m (land (ifB (beq (land a1 268435455) 0) a1 (ifB (beq (add (sub (land (shiftRight a1 45) 131071) a3) (shiftRight a1 62)) 0) 9223372036854775808 (add (add (land a1 268435455) (mul a3 384)) (shiftLeft (add (sub (land (shiftRight a1 28) 131071) a3) (shiftLeft (add (sub (land (shiftRight a1 45) 131071) a3) (shiftLeft (shiftRight a1 62) 17)) 17)) 28)))) 268435455)) (mask (mul (land (shiftRight (ifB (beq (land a1 268435455) 0) a1 (ifB (beq (add (sub (land (shiftRight a1 45) 131071) a3) (shiftRight a1 62)) 0) 9223372036854775808 (add (add (land a1 268435455) (mul a3 384)) (shiftLeft (add (sub (land (shiftRight a1 28) 131071) a3) (shiftLeft (add (sub (land (shiftRight a1 45) 131071) a3) (shiftLeft (shiftRight a1 62) 17)) 17)) 28)))) 28) 131071) 6))) m t s d J7
def e282 : FunE := ⟨[.sli (lay 368), .one (.int .i64), .one (.int .i64)], [.sli (lay 368)], wrapF 3 1 sf282⟩
def i282 : FI := ⟨33, [], [0, 6, 7, 16], [], []⟩
def a282 : An := (.sq .reg (.sq .reg (.sq (.sq .reg (.cd .dead .skip)) (.sq .reg (.sq (.drw [(0, 0), (1, 0), (2, 0), (3, 0), (4, 0), (5, 0), (6, 1), (7, 1)]) (.sq .reg (.sq .reg .ret)))))))
theorem q282 : AllN 3 fun l => ∀ m t s d k, R.denF i282 a282 (bodyOf Tryz.f282) Tryz.f282.results.toList e282.ps e282.rs l ⟨m, t, s, d⟩ k = wrapF 3 1 sf282 l ⟨m, t, s, d⟩ k := by
  intro x0 x1 x2 m t s d k
  kernel_rfl
theorem ok282 : FunOK Tryz.prog 282 e282 := fun_ok facts mixed (I := i282) FnsOK.nil Tryz.func282 (by kernel_rfl) (by kernel_rfl) (by kernel_rfl) (an := a282) (by kernel_rfl) (by kernel_rfl) q282
def sf236 : FT 3 1 := fun a1 a2 a3 m t s d k=>
 force a2 fun v4=>
 join (loopN 4 (fun (_ _ _ _ _ : Nat) => false) (fun L7 (p5 m6 t6 s6 d6 : Nat)=>
 okB (ifB (beq a1 0) false true)<|
 force (xor p5 (shiftLeft a3 320)) fun v9=>
 okB (beq (land (shiftRight m6 a1) 18446744073709551615) (land (shiftRight m6 a1) 18446744073709551615))<|
 join (fun (r10 m11 t11 s11 d11 : Nat)=>
 okB (ifB (beq a1 0) false true)<|
 force (xor (land (shiftRight m11 a1) 18446744073709551615) r10) fun v13=>
 force (xor m11 (xor (shiftLeft v13 a1) (mod (add v13 a1) 2305843009213693951))) fun m14=>
 sf242 a1 m14 t11 s11 d11 fun r15 m16 t16 s16 d16=>
 okB (ifB (beq a1 0) false true)<|
 force (xor (land (shiftRight m16 a1) 18446744073709551615) r15) fun v17=>
 force (xor m16 (xor (shiftLeft v17 a1) (mod (add v17 a1) 2305843009213693951))) fun m18=>
 okB (ifB (beq a1 0) false true)<|
 okB (ifB (beq a1 0) false true)<|
 okB (ifB (beq a1 0) false true)<|
 okB (ifB (ble 0 (ifB (ble (succ (xor (land (shiftRight (land (shiftRight m18 a1) 18446744073709551615) 28) 131071) 9223372036854775808)) (xor (land (shiftRight m18 (add a1 64)) 18446744073709551615) 9223372036854775808)) (land (shiftRight (land (shiftRight m18 a1) 18446744073709551615) 28) 131071) (land (shiftRight m18 (add a1 64)) 18446744073709551615))) (ble (ifB (ble (succ (xor (land (shiftRight (land (shiftRight m18 a1) 18446744073709551615) 28) 131071) 9223372036854775808)) (xor (land (shiftRight m18 (add a1 64)) 18446744073709551615) 9223372036854775808)) (land (shiftRight (land (shiftRight m18 a1) 18446744073709551615) 28) 131071) (land (shiftRight m18 (add a1 64)) 18446744073709551615)) (land (shiftRight (land (shiftRight m18 a1) 18446744073709551615) 45) 131071)) false)<|
 okB (ifB (beq a1 0) false true)<|
 force (xor (land (shiftRight m18 a1) 18446744073709551615) (ifB (beq (land (land (shiftRight m18 a1) 18446744073709551615) 268435455) 0) (land (shiftRight m18 a1) 18446744073709551615) (ifB (beq (add (sub (land (shiftRight (land (shiftRight m18 a1) 18446744073709551615) 45) 131071) 0) (shiftRight (land (shiftRight m18 a1) 18446744073709551615) 62)) 0) 9223372036854775808 (add (land (land (shiftRight m18 a1) 18446744073709551615) 268435455) (shiftLeft (add (sub (ifB (ble (succ (xor (land (shiftRight (land (shiftRight m18 a1) 18446744073709551615) 28) 131071) 9223372036854775808)) (xor (land (shiftRight m18 (add a1 64)) 18446744073709551615) 9223372036854775808)) (land (shiftRight (land (shiftRight m18 a1) 18446744073709551615) 28) 131071) (land (shiftRight m18 (add a1 64)) 18446744073709551615)) 0) (shiftLeft (add (sub (land (shiftRight (land (shiftRight m18 a1) 18446744073709551615) 45) 131071) 0) (shiftLeft (shiftRight (land (shiftRight m18 a1) 18446744073709551615) 62) 17)) 17)) 28))))) fun v19=>
 force (xor m18 (xor (shiftLeft v19 a1) (mod (add v19 a1) 2305843009213693951))) fun m20=>
 k 0 m20 t16 s16 d16) fun J12=>
 appR 6 (land (shiftRight m6 a1) 18446744073709551615) 1 v9 m6 t6 s6 d6 J12)) fun J8=>
 force v4 fun v21=>
 sf80 v21 m t s d fun r22 m23 t23 s23 d23=>
 okB (ifB (ifB (beq r22 1) false true) true (ifB (ifB (beq r22 1) false true) false true))<|
 okB (ifB (ifB (ifB (beq r22 1) false true) true (ble (succ (xor a3 9223372036854775808)) 9223372036854775809)) true (ifB (ifB (ifB (beq r22 1) false true) true (ble (succ (xor a3 9223372036854775808)) 9223372036854775809)) false true))<|
 ifB (ifB (ifB (ifB (beq r22 1) false true) true (ble (succ (xor a3 9223372036854775808)) 9223372036854775809)) true (ble 9223372036854775909 (xor a3 9223372036854775808))) (
 false)<|
 okB (ifB (beq a1 0) false true)<|
 ifB (beq 0 (land (shiftRight (land (shiftRight m23 a1) 18446744073709551615) 28) 131071)) (
 J8 v4 m23 t23 s23 d23)<|
 okB (ifB (beq a1 0) false true)<|
 okB (ble 1 (land (shiftRight (land (shiftRight m23 a1) 18446744073709551615) 28) 131071))<|
 okB (beq (land (shiftRight d23 (shiftRight (add (land (land (shiftRight m23 a1) 18446744073709551615) 268435455) 0) 6)) 1) 0)<|
 ifB (ifB (beq (land (shiftRight m23 (add (land (land (shiftRight m23 a1) 18446744073709551615) 268435455) 0)) 18446744073709551615) (land (shiftRight v4 0) 18446744073709551615)) false true) (
 false)<|
 okB (ifB (beq a1 0) false true)<|
 okB (ble 1 (land (shiftRight (land (shiftRight m23 a1) 18446744073709551615) 28) 131071))<|
 okB (beq (land (shiftRight d23 (shiftRight (add (land (land (shiftRight m23 a1) 18446744073709551615) 268435455) 0) 6)) 31) 0)<|
 force v4 fun v24=>
 force (land (shiftRight m23 (add (land (land (shiftRight m23 a1) 18446744073709551615) 268435455) 0)) (mask 5)) fun v25=>
 sf81 v24 v25 m23 t23 s23 d23 fun r26 m27 t27 s27 d27=>
 ifB (ifB (beq r26 1) false true) (
 false)<|
 okB (ifB (beq a1 0) false true)<|
 force (land (shiftRight m27 a1) 18446744073709551615) fun v28=>
 force 1 fun v29=>
 sf282 v28 0 v29 m27 t27 s27 d27 fun r30 m31 t31 s31 d31=>
 okB (ifB (beq a1 0) false true)<|
 force (xor (land (shiftRight m31 a1) 18446744073709551615) r30) fun v32=>
 force (xor m31 (xor (shiftLeft v32 a1) (mod (add v32 a1) 2305843009213693951))) fun m33=>
 okB (ifB (beq a1 0) false true)<|
 force (xor v4 (shiftLeft a3 320)) fun v34=>
 okB (beq (land (shiftRight m33 a1) 18446744073709551615) (land (shiftRight m33 a1) 18446744073709551615))<|
 join (fun (r35 m36 t36 s36 d36 : Nat)=>
 okB (ifB (beq a1 0) false true)<|
 force (xor (land (shiftRight m36 a1) 18446744073709551615) r35) fun v38=>
 force (xor m36 (xor (shiftLeft v38 a1) (mod (add v38 a1) 2305843009213693951))) fun m39=>
 sf242 a1 m39 t36 s36 d36 fun r40 m41 t41 s41 d41=>
 okB (ifB (beq a1 0) false true)<|
 force (xor (land (shiftRight m41 a1) 18446744073709551615) r40) fun v42=>
 force (xor m41 (xor (shiftLeft v42 a1) (mod (add v42 a1) 2305843009213693951))) fun m43=>
 okB (ifB (beq a1 0) false true)<|
 okB (ifB (beq a1 0) false true)<|
 okB (ifB (beq a1 0) false true)<|
 okB (ifB (ble 0 (ifB (ble (succ (xor (land (shiftRight (land (shiftRight m43 a1) 18446744073709551615) 28) 131071) 9223372036854775808)) (xor (land (shiftRight m43 (add a1 64)) 18446744073709551615) 9223372036854775808)) (land (shiftRight (land (shiftRight m43 a1) 18446744073709551615) 28) 131071) (land (shiftRight m43 (add a1 64)) 18446744073709551615))) (ble (ifB (ble (succ (xor (land (shiftRight (land (shiftRight m43 a1) 18446744073709551615) 28) 131071) 9223372036854775808)) (xor (land (shiftRight m43 (add a1 64)) 18446744073709551615) 9223372036854775808)) (land (shiftRight (land (shiftRight m43 a1) 18446744073709551615) 28) 131071) (land (shiftRight m43 (add a1 64)) 18446744073709551615)) (land (shiftRight (land (shiftRight m43 a1) 18446744073709551615) 45) 131071)) false)<|
 okB (ifB (beq a1 0) false true)<|
 force (xor (land (shiftRight m43 a1) 18446744073709551615) (ifB (beq (land (land (shiftRight m43 a1) 18446744073709551615) 268435455) 0) (land (shiftRight m43 a1) 18446744073709551615) (ifB (beq (add (sub (land (shiftRight (land (shiftRight m43 a1) 18446744073709551615) 45) 131071) 0) (shiftRight (land (shiftRight m43 a1) 18446744073709551615) 62)) 0) 9223372036854775808 (add (land (land (shiftRight m43 a1) 18446744073709551615) 268435455) (shiftLeft (add (sub (ifB (ble (succ (xor (land (shiftRight (land (shiftRight m43 a1) 18446744073709551615) 28) 131071) 9223372036854775808)) (xor (land (shiftRight m43 (add a1 64)) 18446744073709551615) 9223372036854775808)) (land (shiftRight (land (shiftRight m43 a1) 18446744073709551615) 28) 131071) (land (shiftRight m43 (add a1 64)) 18446744073709551615)) 0) (shiftLeft (add (sub (land (shiftRight (land (shiftRight m43 a1) 18446744073709551615) 45) 131071) 0) (shiftLeft (shiftRight (land (shiftRight m43 a1) 18446744073709551615) 62) 17)) 17)) 28))))) fun v44=>
 force (xor m43 (xor (shiftLeft v44 a1) (mod (add v44 a1) 2305843009213693951))) fun m45=>
 k 0 m45 t41 s41 d41) fun J37=>
 appR 6 (land (shiftRight m33 a1) 18446744073709551615) 1 v34 m33 t31 s31 d31 J37
def e236 : FunE := ⟨[.ptr (lay 177) false false, .agg (lay 53), .one (.int .i64)], [.one (.int .i64)], wrapF 3 1 sf236⟩
def i236 : FI := ⟨97, [4, 70], [4, 6, 7, 11, 15, 18, 25, 37, 50], [(80, e80), (81, e81), (242, e242), (282, e282)], []⟩
def a236 : An := (.sq .reg (.sc (.lb 0 [(4, .loc (lay 53))] 4 (.sq .skip (.sq (.drw [(0, 0), (1, 0), (2, 0), (3, 0), (4, 0), (5, 0), (6, 0), (7, 0), (8, 2), (9, 1), (10, 0), (11, 0), (12, 1)]) (.sq .reg (.sq (.drw [(0, 0), (1, 0), (2, 0), (3, 0), (4, 0), (5, 0), (6, 0), (7, 0), (8, 0), (9, 0), (10, 0), (11, 0), (12, 0), (13, 0), (14, 0), (15, 0), (16, 0), (17, 0), (18, 1)]) (.sq .reg .ret))))) (.sq .reg (.sq (.sq .reg (.cd .dead .skip)) (.sq .skip (.sq (.sq .reg (.cd .go .skip)) (.sq (.sq (.drw [(0, 0), (1, 0), (2, 0), (3, 0), (4, 0), (5, 0), (6, 0), (7, 0), (8, 0), (9, 0), (10, 0), (11, 0)]) (.cd .dead .skip)) (.sq (.sq (.drw [(0, 0), (1, 0), (2, 0), (3, 0), (4, 0), (5, 0), (6, 0), (7, 0), (8, 0), (9, 1), (10, 0)]) (.cd .dead .skip)) (.sq .reg (.sq .skip (.sq (.drw [(0, 0), (1, 0), (2, 0), (3, 0), (4, 0), (5, 0), (6, 0), (7, 0), (8, 2), (9, 1), (10, 0), (11, 0), (12, 1)]) (.sq .reg (.sq (.drw [(0, 0), (1, 0), (2, 0), (3, 0), (4, 0), (5, 0), (6, 0), (7, 0), (8, 0), (9, 0), (10, 0), (11, 0), (12, 0), (13, 0), (14, 0), (15, 0), (16, 0), (17, 0), (18, 1)]) (.sq .reg .ret)))))))))))))))
theorem q236 : AllN 3 fun l => ∀ m t s d k, R.denF i236 a236 (bodyOf Tryz.f236) Tryz.f236.results.toList e236.ps e236.rs l ⟨m, t, s, d⟩ k = wrapF 3 1 sf236 l ⟨m, t, s, d⟩ k := by
  intro x0 x1 x2 m t s d k
  kernel_rfl
theorem ok236 : FunOK Tryz.prog 236 e236 := fun_ok facts mixed (I := i236) (FnsOK.cons ok80 (FnsOK.cons ok81 (FnsOK.cons ok242 (FnsOK.cons ok282 FnsOK.nil)))) Tryz.func236 (by kernel_rfl) (by kernel_rfl) (by kernel_rfl) (an := a236) (by kernel_rfl) (by kernel_rfl) q236
def sf237 : FT 1 1 := fun a1 m t s d k=>
 force (ifB (ble (succ (xor a1 9223372036854775808)) 9223372036854775809) 1 a1) fun v2=>
 sf254 v2 m t s d fun r3 m4 t4 s4 d4=>
 force (mod (mul 3 r3) 18446744073709551616) fun v5=>
 k v5 m4 t4 s4 d4
def e237 : FunE := ⟨[.one (.int .i64)], [.one (.int .i64)], wrapF 1 1 sf237⟩
def i237 : FI := ⟨8, [], [2], [(254, e254)], []⟩
def a237 : An := (.sq .reg (.sq .reg .ret))
theorem q237 : AllN 1 fun l => ∀ m t s d k, R.denF i237 a237 (bodyOf Tryz.f237) Tryz.f237.results.toList e237.ps e237.rs l ⟨m, t, s, d⟩ k = wrapF 1 1 sf237 l ⟨m, t, s, d⟩ k := by
  intro x0 m t s d k
  kernel_rfl
theorem ok237 : FunOK Tryz.prog 237 e237 := fun_ok facts mixed (I := i237) (FnsOK.cons ok254 FnsOK.nil) Tryz.func237 (by kernel_rfl) (by kernel_rfl) (by kernel_rfl) (an := a237) (by kernel_rfl) (by kernel_rfl) q237
def sf164 : FT 2 0 := fun a1 a2 m t s d k=>
 force a2 fun v3=>
 okB (ifB (beq a1 0) false true)<|
 okB (ifB (beq a1 0) false true)<|
 force (land (shiftRight m (add a1 960)) 18446744073709551615) fun v4=>
 sf17 v4 m t s d fun r5 m6 t6 s6 d6=>
 okB (beq v3 v3)<|
 okB (beq (land (shiftRight m6 (add a1 1024)) 18446744073709551615) (land (shiftRight m (add a1 1024)) 18446744073709551615))<|
 force (land (shiftRight r5 28) 131071) fun v7=>
 sf237 v7 m6 t6 s6 d6 fun r8 m9 t9 s9 d9=>
 okB (beq v3 v3)<|
 okB (beq (land (shiftRight m9 (add a1 1024)) 18446744073709551615) (land (shiftRight m (add a1 1024)) 18446744073709551615))<|
 force (land (shiftRight m (add a1 1024)) 18446744073709551615) fun v10=>
 force v3 fun v11=>
 sf236 v10 v11 r8 m9 t9 s9 d9 fun r12 m13 t13 s13 d13=>
 k m13 t13 s13 d13
def e164 : FunE := ⟨[.ptr (lay 104) false false, .agg (lay 53)], [], wrapF 2 0 sf164⟩
def i164 : FI := ⟨17, [3], [3], [(17, e17), (236, e236), (237, e237)], []⟩
def a164 : An := (.sq .reg (.drw [(0, 0), (1, 0), (2, 0), (3, 0), (4, 0), (5, 0), (6, 0), (7, 0), (8, 0), (9, 1), (10, 0), (11, 1), (12, 1)]))
theorem q164 : AllN 2 fun l => ∀ m t s d k, R.denF i164 a164 (bodyOf Tryz.f164) Tryz.f164.results.toList e164.ps e164.rs l ⟨m, t, s, d⟩ k = wrapF 2 0 sf164 l ⟨m, t, s, d⟩ k := by
  intro x0 x1 m t s d k
  kernel_rfl
theorem ok164 : FunOK Tryz.prog 164 e164 := fun_ok facts mixed (I := i164) (FnsOK.cons ok17 (FnsOK.cons ok236 (FnsOK.cons ok237 FnsOK.nil))) Tryz.func164 (by kernel_rfl) (by kernel_rfl) (by kernel_rfl) (an := a164) (by kernel_rfl) (by kernel_rfl) q164
def sf238 : FT 1 1 := fun a1 m t s d k=>
 okB (ifB (ifB (ble (succ (xor a1 9223372036854775808)) 9223372036854775809) false true) (ifB (ble (succ (xor a1 9223372036854775808)) 9223372036854775809) false true) true)<|
 force (ifB (ifB (ifB (ble (succ (xor a1 9223372036854775808)) 9223372036854775809) false true) (ifB (ble 9223372036854775841 (xor a1 9223372036854775808)) false true) false) 1 0) fun v2=>
 k v2 m t s d
def e238 : FunE := ⟨[.one (.int .i64)], [.one .bool], wrapF 1 1 sf238⟩
def i238 : FI := ⟨9, [], [2, 5], [], []⟩
def a238 : An := (.sq .reg (.sq .reg .ret))
theorem q238 : AllN 1 fun l => ∀ m t s d k, R.denF i238 a238 (bodyOf Tryz.f238) Tryz.f238.results.toList e238.ps e238.rs l ⟨m, t, s, d⟩ k = wrapF 1 1 sf238 l ⟨m, t, s, d⟩ k := by
  intro x0 m t s d k
  kernel_rfl
theorem ok238 : FunOK Tryz.prog 238 e238 := fun_ok facts mixed (I := i238) FnsOK.nil Tryz.func238 (by kernel_rfl) (by kernel_rfl) (by kernel_rfl) (an := a238) (by kernel_rfl) (by kernel_rfl) q238
def sf239 : FT 2 2 := fun a1 a2 m t s d k=>
 sf238 a2 m t s d fun r3 m4 t4 s4 d4=>
 okB (ifB (ifB (ifB (beq r3 1) false true) false true) (ifB (beq a1 0) false true) true)<|
 okB (ifB (ifB (ifB (beq r3 1) false true) false true) (ble (succ a2) 33) true)<|
 okB (ifB (ifB (beq r3 1) false true) true (ifB (ifB (beq r3 1) false true) false true))<|
 ifB (ifB (ifB (beq r3 1) false true) true (beq (land (shiftRight m4 (add a1 (mul a2 320))) 18446744073709551615) 0)) (
 force (ifB false 1 0) fun v5=>
 k 0 v5 m4 t4 s4 d4)<|
 okB (ifB (beq a1 0) false true)<|
 okB (ble (succ a2) 33)<|
 force (add a1 (mul a2 320)) fun v6=>
 force (ifB true 1 0) fun v7=>
 k v6 v7 m4 t4 s4 d4
def e239 : FunE := ⟨[.ptr (lay 172) false false, .one (.int .i64)], [.ptr (lay 171) false false, .one .bool], wrapF 2 2 sf239⟩
def i239 : FI := ⟨24, [], [4, 5, 9, 18], [(238, e238)], []⟩
def a239 : An := (.sq .reg (.sq (.sq .reg (.cd (.sq .reg .ret) .skip)) (.sq .reg .ret)))
theorem q239 : AllN 2 fun l => ∀ m t s d k, R.denF i239 a239 (bodyOf Tryz.f239) Tryz.f239.results.toList e239.ps e239.rs l ⟨m, t, s, d⟩ k = wrapF 2 2 sf239 l ⟨m, t, s, d⟩ k := by
  intro x0 x1 m t s d k
  kernel_rfl
theorem ok239 : FunOK Tryz.prog 239 e239 := fun_ok facts mixed (I := i239) (FnsOK.cons ok238 FnsOK.nil) Tryz.func239 (by kernel_rfl) (by kernel_rfl) (by kernel_rfl) (an := a239) (by kernel_rfl) (by kernel_rfl) q239
def sf165 : FT 5 1 := fun a1 a2 a3 a4 a5 m t s d k=>
 sf238 a2 m t s d fun r6 m7 t7 s7 d7=>
 okB (ifB (ifB (beq r6 1) false true) true (ifB (ifB (beq r6 1) false true) false true))<|
 okB (ifB (ifB (ifB (beq r6 1) false true) true (ble 4611686018427387905 a4)) true (ifB (ifB (ifB (beq r6 1) false true) true (ble 4611686018427387905 a4)) false true))<|
 okB (ifB (ifB (ifB (ifB (beq r6 1) false true) true (ble 4611686018427387905 a4)) true (beq a5 0)) true (ifB (ifB (ifB (ifB (beq r6 1) false true) true (ble 4611686018427387905 a4)) true (beq a5 0)) false true))<|
 ifB (ifB (ifB (ifB (ifB (beq r6 1) false true) true (ble 4611686018427387905 a4)) true (beq a5 0)) true (ble 1000001 a5)) (
 false)<|
 sf239 a1 a2 m7 t7 s7 d7 fun r8 r9 m10 t10 s10 d10=>
 okB (ifB (beq r9 1) (ifB (beq r8 0) false true) true)<|
 okB (ifB (beq r9 1) (beq r9 1) true)<|
 ifB (ifB (beq r9 1) (ifB (ble (succ (land (shiftRight m10 (add r8 64)) 18446744073709551615)) a3) false true) false) (
 false)<|
 okB (ifB (beq a1 0) false true)<|
 okB (ble (succ a2) 33)<|
 force (xor (land (shiftRight m10 (add a1 (mul a2 320))) (mask 5)) (xor (xor (xor a2 (shiftLeft a3 64)) (shiftLeft a4 128)) (shiftLeft a5 192))) fun v11=>
 force (xor m10 (xor (shiftLeft v11 (add a1 (mul a2 320))) (mod (add v11 (add a1 (mul a2 320))) 2305843009213693951))) fun m12=>
 k 0 m12 t10 s10 d10
def e165 : FunE := ⟨[.ptr (lay 172) false false, .one (.int .i64), .one (.int .u32), .one (.int .u64), .one (.int .u64)], [.one (.int .i64)], wrapF 5 1 sf165⟩
def i165 : FI := ⟨53, [], [10, 11, 12, 16, 20, 24, 27, 28, 35, 42], [(238, e238), (239, e239)], []⟩
def a165 : An := (.sq .reg (.sq (.sq .reg (.cd .dead .skip)) (.sq (.sq .reg (.sq .reg (.cd .dead .skip))) (.sq .reg (.sq .reg .ret)))))
theorem q165 : AllN 5 fun l => ∀ m t s d k, R.denF i165 a165 (bodyOf Tryz.f165) Tryz.f165.results.toList e165.ps e165.rs l ⟨m, t, s, d⟩ k = wrapF 5 1 sf165 l ⟨m, t, s, d⟩ k := by
  intro x0 x1 x2 x3 x4 m t s d k
  kernel_rfl
theorem ok165 : FunOK Tryz.prog 165 e165 := fun_ok facts mixed (I := i165) (FnsOK.cons ok238 (FnsOK.cons ok239 FnsOK.nil)) Tryz.func165 (by kernel_rfl) (by kernel_rfl) (by kernel_rfl) (an := a165) (by kernel_rfl) (by kernel_rfl) q165
def sf167 : FT 3 1 := fun a1 a2 a3 m t s d k=>
 sf239 a1 a2 m t s d fun r4 r5 m6 t6 s6 d6=>
 okB (ifB (ifB (ifB (beq r5 1) false true) false true) (ifB (beq r4 0) false true) true)<|
 okB (ifB (ifB (beq r5 1) false true) true (ifB (ifB (beq r5 1) false true) false true))<|
 ifB (ifB (ifB (beq r5 1) false true) true (ifB (ble (succ (land (shiftRight m6 (add r4 64)) 18446744073709551615)) a3) false true)) (
 force (ifB false 1 0) fun v7=>
 k v7 m6 t6 s6 d6)<|
 okB (ifB (beq r4 0) false true)<|
 force (xor (land (shiftRight m6 r4) (mask 5)) 0) fun v8=>
 force (xor m6 (xor (shiftLeft v8 r4) (mod (add v8 r4) 2305843009213693951))) fun m9=>
 force (ifB true 1 0) fun v10=>
 k v10 m9 t6 s6 d6
def e167 : FunE := ⟨[.ptr (lay 172) false false, .one (.int .i64), .one (.int .u32)], [.one .bool], wrapF 3 1 sf167⟩
def i167 : FI := ⟨28, [], [6, 7, 8, 9, 17, 24], [(239, e239)], []⟩
def a167 : An := (.sq .reg (.sq .reg (.sq (.sq .reg (.cd (.sq .reg .ret) .skip)) (.sq .reg (.sq .reg .ret)))))
theorem q167 : AllN 3 fun l => ∀ m t s d k, R.denF i167 a167 (bodyOf Tryz.f167) Tryz.f167.results.toList e167.ps e167.rs l ⟨m, t, s, d⟩ k = wrapF 3 1 sf167 l ⟨m, t, s, d⟩ k := by
  intro x0 x1 x2 m t s d k
  kernel_rfl
theorem ok167 : FunOK Tryz.prog 167 e167 := fun_ok facts mixed (I := i167) (FnsOK.cons ok239 FnsOK.nil) Tryz.func167 (by kernel_rfl) (by kernel_rfl) (by kernel_rfl) (an := a167) (by kernel_rfl) (by kernel_rfl) q167
def sf177 : FT 1 1 := fun a1 m t s d k=>
 okB (ifB (ifB (ble (succ (xor a1 9223372036854775808)) 9223372036854775809) false true) (ifB (ble (succ (xor a1 9223372036854775808)) 9223372036854775809) false true) true)<|
 force (ifB (ifB (ifB (ble (succ (xor a1 9223372036854775808)) 9223372036854775809) false true) (ifB (ble 9223372036854775841 (xor a1 9223372036854775808)) false true) false) 1 0) fun v2=>
 k v2 m t s d
def e177 : FunE := ⟨[.one (.int .i64)], [.one .bool], wrapF 1 1 sf177⟩
def i177 : FI := ⟨9, [], [2, 5], [], []⟩
def a177 : An := (.sq .reg (.sq .reg .ret))
theorem q177 : AllN 1 fun l => ∀ m t s d k, R.denF i177 a177 (bodyOf Tryz.f177) Tryz.f177.results.toList e177.ps e177.rs l ⟨m, t, s, d⟩ k = wrapF 1 1 sf177 l ⟨m, t, s, d⟩ k := by
  intro x0 m t s d k
  kernel_rfl
theorem ok177 : FunOK Tryz.prog 177 e177 := fun_ok facts mixed (I := i177) FnsOK.nil Tryz.func177 (by kernel_rfl) (by kernel_rfl) (by kernel_rfl) (an := a177) (by kernel_rfl) (by kernel_rfl) q177
def sf132 : FT 2 2 := fun a1 a2 m t s d k=>
 sf177 a2 m t s d fun r3 m4 t4 s4 d4=>
 okB (ifB (ifB (ifB (beq r3 1) false true) false true) (ifB (beq a1 0) false true) true)<|
 okB (ifB (ifB (ifB (beq r3 1) false true) false true) (ble (succ a2) 33) true)<|
 okB (ifB (ifB (beq r3 1) false true) true (ifB (ifB (beq r3 1) false true) false true))<|
 ifB (ifB (ifB (beq r3 1) false true) true (beq (land (shiftRight m4 (add (add (add a1 256) (mul a2 448)) 64)) 18446744073709551615) 0)) (
 force 0 fun v5=>
 force v5 fun v6=>
 force (ifB false 1 0) fun v7=>
 k v6 v7 m4 t4 s4 d4)<|
 okB (ifB (beq a1 0) false true)<|
 okB (ble (succ a2) 33)<|
 force (land (shiftRight m4 (add (add a1 256) (mul a2 448))) (mask 7)) fun v8=>
 force v8 fun v9=>
 force (ifB true 1 0) fun v10=>
 k v9 v10 m4 t4 s4 d4
def e132 : FunE := ⟨[.ptr (lay 198) false false, .one (.int .i64)], [.agg (lay 195), .one .bool], wrapF 2 2 sf132⟩
def i132 : FI := ⟨26, [4], [4, 5, 9, 18], [(177, e177)], []⟩
def a132 : An := (.sq .reg (.sq (.sq .reg (.cd (.sq .reg .ret) .skip)) (.sq .reg .ret)))
theorem q132 : AllN 2 fun l => ∀ m t s d k, R.denF i132 a132 (bodyOf Tryz.f132) Tryz.f132.results.toList e132.ps e132.rs l ⟨m, t, s, d⟩ k = wrapF 2 2 sf132 l ⟨m, t, s, d⟩ k := by
  intro x0 x1 m t s d k
  kernel_rfl
theorem ok132 : FunOK Tryz.prog 132 e132 := fun_ok facts mixed (I := i132) (FnsOK.cons ok177 FnsOK.nil) Tryz.func132 (by kernel_rfl) (by kernel_rfl) (by kernel_rfl) (an := a132) (by kernel_rfl) (by kernel_rfl) q132
def sf168 : FT 2 1 := fun a1 a2 m t s d k=>
 sf132 a1 a2 m t s d fun r3 r4 m5 t5 s5 d5=>
 force r3 fun v6=>
 join (fun (m7 t7 s7 d7 : Nat)=>
 k r4 m7 t7 s7 d7) fun J8=>
 ifB (beq r4 1) (
 okB (ifB (beq a1 0) false true)<|
 okB (ble (succ a2) 33)<|
 force (xor (land (shiftRight m5 (add (add a1 256) (mul a2 448))) (mask 7)) 0) fun v9=>
 force (xor m5 (xor (shiftLeft v9 (add (add a1 256) (mul a2 448))) (mod (add v9 (add (add a1 256) (mul a2 448))) 2305843009213693951))) fun m10=>
 J8 m10 t5 s5 d5)<|
 J8 m5 t5 s5 d5
def e168 : FunE := ⟨[.ptr (lay 198) false false, .one (.int .i64)], [.one .bool], wrapF 2 1 sf168⟩
def i168 : FI := ⟨21, [5], [4, 6, 7, 13], [(132, e132)], []⟩
def a168 : An := (.sq .reg (.sq .reg (.sj [] (.sq .reg (.cd .reg .skip)) (.sq .reg .ret))))
theorem q168 : AllN 2 fun l => ∀ m t s d k, R.denF i168 a168 (bodyOf Tryz.f168) Tryz.f168.results.toList e168.ps e168.rs l ⟨m, t, s, d⟩ k = wrapF 2 1 sf168 l ⟨m, t, s, d⟩ k := by
  intro x0 x1 m t s d k
  kernel_rfl
theorem ok168 : FunOK Tryz.prog 168 e168 := fun_ok facts mixed (I := i168) (FnsOK.cons ok132 FnsOK.nil) Tryz.func168 (by kernel_rfl) (by kernel_rfl) (by kernel_rfl) (an := a168) (by kernel_rfl) (by kernel_rfl) q168
def sf179 : FT 1 1 := fun a1 m t s d k=>
 okB (ifB (ifB (ble (succ (xor a1 9223372036854775808)) 9223372036854775809) false true) (ifB (ble (succ (xor a1 9223372036854775808)) 9223372036854775809) false true) true)<|
 force (ifB (ifB (ifB (ble (succ (xor a1 9223372036854775808)) 9223372036854775809) false true) (ifB (ble 9223372036854775841 (xor a1 9223372036854775808)) false true) false) 1 0) fun v2=>
 k v2 m t s d
def e179 : FunE := ⟨[.one (.int .i64)], [.one .bool], wrapF 1 1 sf179⟩
def i179 : FI := ⟨9, [], [2, 5], [], []⟩
def a179 : An := (.sq .reg (.sq .reg .ret))
theorem q179 : AllN 1 fun l => ∀ m t s d k, R.denF i179 a179 (bodyOf Tryz.f179) Tryz.f179.results.toList e179.ps e179.rs l ⟨m, t, s, d⟩ k = wrapF 1 1 sf179 l ⟨m, t, s, d⟩ k := by
  intro x0 m t s d k
  kernel_rfl
theorem ok179 : FunOK Tryz.prog 179 e179 := fun_ok facts mixed (I := i179) FnsOK.nil Tryz.func179 (by kernel_rfl) (by kernel_rfl) (by kernel_rfl) (an := a179) (by kernel_rfl) (by kernel_rfl) q179
def sf169 : FT 2 1 := fun a1 a2 m t s d k=>
 sf179 a2 m t s d fun r3 m4 t4 s4 d4=>
 okB (ifB (ifB (ifB (beq r3 1) false true) false true) (ifB (beq a1 0) false true) true)<|
 okB (ifB (ifB (ifB (beq r3 1) false true) false true) (ble (succ a2) 33) true)<|
 okB (ifB (ifB (beq r3 1) false true) true (ifB (ifB (beq r3 1) false true) false true))<|
 ifB (ifB (ifB (beq r3 1) false true) true (beq (land (shiftRight m4 (add (add a1 128) (mul a2 192))) 18446744073709551615) 0)) (
 force (ifB false 1 0) fun v5=>
 k v5 m4 t4 s4 d4)<|
 okB (ifB (beq a1 0) false true)<|
 okB (ble (succ a2) 33)<|
 force (xor (land (shiftRight m4 (add (add a1 128) (mul a2 192))) 6277101735386680763835789423207666416102355444464034512895) 0) fun v6=>
 force (xor m4 (xor (shiftLeft v6 (add (add a1 128) (mul a2 192))) (mod (add v6 (add (add a1 128) (mul a2 192))) 2305843009213693951))) fun m7=>
 force (ifB true 1 0) fun v8=>
 k v8 m7 t4 s4 d4
def e169 : FunE := ⟨[.ptr (lay 193) false false, .one (.int .i64)], [.one .bool], wrapF 2 1 sf169⟩
def i169 : FI := ⟨24, [], [4, 8, 17], [(179, e179)], []⟩
def a169 : An := (.sq .reg (.sq (.sq .reg (.cd (.sq .reg .ret) .skip)) (.sq .reg (.sq .reg .ret))))
theorem q169 : AllN 2 fun l => ∀ m t s d k, R.denF i169 a169 (bodyOf Tryz.f169) Tryz.f169.results.toList e169.ps e169.rs l ⟨m, t, s, d⟩ k = wrapF 2 1 sf169 l ⟨m, t, s, d⟩ k := by
  intro x0 x1 m t s d k
  kernel_rfl
theorem ok169 : FunOK Tryz.prog 169 e169 := fun_ok facts mixed (I := i169) (FnsOK.cons ok179 FnsOK.nil) Tryz.func169 (by kernel_rfl) (by kernel_rfl) (by kernel_rfl) (an := a169) (by kernel_rfl) (by kernel_rfl) q169
def sf115 : FT 4 0 := fun a1 a2 a3 a4 m t s d k=>
 force a3 fun v5=>
 force v5 fun v6=>
 sf80 v6 m t s d fun r7 m8 t8 s8 d8=>
 ifB (ifB (beq r7 1) false true) (
 false)<|
 okB (ifB (beq a1 0) false true)<|
 ifB (beq (land (shiftRight v5 0) 18446744073709551615) (land (shiftRight m8 a1) 18446744073709551615)) (
 force v5 fun v9=>
 sf163 a1 v9 m8 t8 s8 d8 fun m10 t10 s10 d10=>
 k m10 t10 s10 d10)<|
 okB (ifB (beq a1 0) false true)<|
 force (land (shiftRight m8 (add a1 960)) 18446744073709551615) fun v11=>
 force v5 fun v12=>
 sf53 v11 v12 m8 t8 s8 d8 fun r13 r14 m15 t15 s15 d15=>
 join (fun (m16 t16 s16 d16 : Nat)=>
 okB (ifB (beq a1 0) false true)<|
 force (land (shiftRight m16 (add a1 960)) 18446744073709551615) fun v18=>
 force (land (shiftRight v5 0) 18446744073709551615) fun v19=>
 sf14 v18 v19 m16 t16 s16 d16 fun r20 r21 m22 t22 s22 d22=>
 okB (beq (land (shiftRight v5 0) 18446744073709551615) (land (shiftRight v5 0) 18446744073709551615))<|
 okB (beq (land (shiftRight m22 (add a1 960)) 18446744073709551615) (land (shiftRight m16 (add a1 960)) 18446744073709551615))<|
 force r20 fun v23=>
 okB (ifB (beq (land (shiftRight v5 64) 18446744073709551615) 1) (beq (land (shiftRight v5 64) 18446744073709551615) 1) true)<|
 okB (ifB (ifB (beq (land (shiftRight v5 64) 18446744073709551615) 1) (beq (land (shiftRight v23 64) 18446744073709551615) (land (shiftRight v5 64) 18446744073709551615)) false) (ifB (beq (land (shiftRight v5 64) 18446744073709551615) 1) (beq (land (shiftRight v23 64) 18446744073709551615) (land (shiftRight v5 64) 18446744073709551615)) false) true)<|
 okB (ifB (ifB (ifB (beq (land (shiftRight v5 64) 18446744073709551615) 1) (beq (land (shiftRight v23 64) 18446744073709551615) (land (shiftRight v5 64) 18446744073709551615)) false) (beq (land (shiftRight v23 128) 18446744073709551615) (land (shiftRight v5 128) 18446744073709551615)) false) (ifB (beq a1 0) false true) true)<|
 okB (ifB (ifB (ifB (beq (land (shiftRight v5 64) 18446744073709551615) 1) (beq (land (shiftRight v23 64) 18446744073709551615) (land (shiftRight v5 64) 18446744073709551615)) false) (beq (land (shiftRight v23 128) 18446744073709551615) (land (shiftRight v5 128) 18446744073709551615)) false) (ifB (beq a1 0) false true) true)<|
 join (fun (r24 m25 t25 s25 d25 : Nat)=>
 okB (ifB (ifB (ifB (beq (land (shiftRight v5 64) 18446744073709551615) 1) (beq (land (shiftRight v23 64) 18446744073709551615) (land (shiftRight v5 64) 18446744073709551615)) false) (beq (land (shiftRight v23 128) 18446744073709551615) (land (shiftRight v5 128) 18446744073709551615)) false) (ifB (ifB (beq (land (shiftRight v5 64) 18446744073709551615) 1) (beq (land (shiftRight v23 64) 18446744073709551615) (land (shiftRight v5 64) 18446744073709551615)) false) (beq (land (shiftRight v23 128) 18446744073709551615) (land (shiftRight v5 128) 18446744073709551615)) false) true)<|
 ifB (ifB (ifB (ifB (beq (land (shiftRight v5 64) 18446744073709551615) 1) (beq (land (shiftRight v23 64) 18446744073709551615) (land (shiftRight v5 64) 18446744073709551615)) false) (beq (land (shiftRight v23 128) 18446744073709551615) (land (shiftRight v5 128) 18446744073709551615)) false) (beq r24 6) false) (
 false)<|
 ifB (ifB (beq r13 1) false true) (
 k m25 t25 s25 d25)<|
 ifB (beq (land (shiftRight v5 64) 18446744073709551615) 0) (
 okB (ifB (beq a1 0) false true)<|
 force (land (shiftRight m25 (add a1 1600)) 18446744073709551615) fun v27=>
 force (land (shiftRight v5 0) 18446744073709551615) fun v28=>
 force (land (shiftRight v5 128) 18446744073709551615) fun v29=>
 sf167 v27 v28 v29 m25 t25 s25 d25 fun r30 m31 t31 s31 d31=>
 k m31 t31 s31 d31)<|
 force v5 fun v32=>
 sf16 v32 m25 t25 s25 d25 fun r33 m34 t34 s34 d34=>
 ifB (ifB (beq r33 1) false true) (
 okB (ifB (beq a1 0) false true)<|
 force (land (shiftRight m34 (add a1 1600)) 18446744073709551615) fun v35=>
 force (land (shiftRight v5 0) 18446744073709551615) fun v36=>
 force (mod (add (ifB (ble (succ (land (shiftRight v5 128) 18446744073709551615)) 4294967294) (land (shiftRight v5 128) 18446744073709551615) 4294967294) 1) 4294967296) fun v37=>
 sf167 v35 v36 v37 m34 t34 s34 d34 fun r38 m39 t39 s39 d39=>
 okB (ifB (beq a1 0) false true)<|
 force (land (shiftRight m39 (add a1 1856)) 18446744073709551615) fun v40=>
 force (land (shiftRight v5 0) 18446744073709551615) fun v41=>
 sf168 v40 v41 m39 t39 s39 d39 fun r42 m43 t43 s43 d43=>
 okB (ifB (beq a1 0) false true)<|
 force (land (shiftRight m43 (add a1 1792)) 18446744073709551615) fun v44=>
 force (land (shiftRight v5 0) 18446744073709551615) fun v45=>
 sf169 v44 v45 m43 t43 s43 d43 fun r46 m47 t47 s47 d47=>
 k m47 t47 s47 d47)<|
 k m34 t34 s34 d34) fun J26=>
 ifB (ifB (ifB (beq (land (shiftRight v5 64) 18446744073709551615) 1) (beq (land (shiftRight v23 64) 18446744073709551615) (land (shiftRight v5 64) 18446744073709551615)) false) (beq (land (shiftRight v23 128) 18446744073709551615) (land (shiftRight v5 128) 18446744073709551615)) false) (
 force (land (shiftRight m22 (add a1 1600)) 18446744073709551615) fun v48=>
 force (land (shiftRight v5 0) 18446744073709551615) fun v49=>
 force (land (shiftRight v5 128) 18446744073709551615) fun v50=>
 force (land (shiftRight m22 (add a1 512)) 18446744073709551615) fun v51=>
 sf165 v48 v49 v50 a2 v51 m22 t22 s22 d22 fun r52 m53 t53 s53 d53=>
 J26 r52 m53 t53 s53 d53)<|
 J26 0 m22 t22 s22 d22) fun J17=>
 ifB (beq r13 1) (
 force v5 fun v54=>
 sf164 a1 v54 m15 t15 s15 d15 fun m55 t55 s55 d55=>
 J17 m55 t55 s55 d55)<|
 J17 m15 t15 s15 d15
def e115 : FunE := ⟨[.ptr (lay 104) false false, .one (.int .u64), .agg (lay 53), .one (.int .i64)], [], wrapF 4 0 sf115⟩
def i115 : FI := ⟨141, [6, 10], [6, 8, 10, 12, 16, 28, 37, 41, 54, 61, 68, 85, 96, 99, 112], [(14, e14), (16, e16), (53, e53), (80, e80), (163, e163), (164, e164), (165, e165), (167, e167), (168, e168), (169, e169)], []⟩
def a115 : An := (.sq .reg (.sq (.bl (.sq .reg (.cd .dead (.sq (.drw [(0, 0), (1, 0), (2, 0), (3, 0), (4, 0), (5, 0), (6, 0), (7, 0), (8, 0)]) (.cd (.sq .reg .ret) .skip))))) (.sq (.drw [(0, 0), (1, 0), (2, 0), (3, 0), (4, 0), (5, 1), (6, 0), (7, 0), (8, 0), (9, 0), (10, 0)]) (.sj [] (.sq .reg (.cd .reg .skip)) (.sq (.drw [(0, 0), (1, 0), (2, 0), (3, 0), (4, 0), (5, 0), (6, 1), (7, 0), (8, 0), (9, 0), (10, 2), (11, 1), (12, 0)]) (.sq (.sq (.drw [(0, 0), (1, 0), (2, 0), (3, 0), (4, 0), (5, 0), (6, 0), (7, 0), (8, 0), (9, 0), (10, 0), (11, 0), (12, 0), (13, 0), (14, 0), (15, 0), (16, 0), (17, 0), (18, 0), (19, 0), (20, 0), (21, 0), (22, 0), (23, 0), (24, 0), (25, 0), (26, 0), (27, 0), (28, 0), (29, 0), (30, 0), (31, 0), (32, 1), (33, 0), (34, 0)]) (.cd .dead .skip)) (.bl (.sq .reg (.cd .skip (.sq .reg (.cd (.drw [(0, 0), (1, 0), (2, 0), (3, 0), (4, 0), (5, 0), (6, 0), (7, 0), (8, 1)]) (.sq .reg (.cd (.sq (.drw [(0, 0), (1, 0), (2, 0), (3, 0), (4, 0), (5, 0), (6, 0), (7, 0), (8, 0), (9, 0), (10, 1)]) (.sq (.drw [(0, 0), (1, 0), (2, 0), (3, 0), (4, 0), (5, 0), (6, 1)]) (.drw [(0, 0), (1, 0), (2, 0), (3, 0), (4, 0), (5, 0), (6, 1)]))) .skip)))))))))))))
theorem q115 : AllN 4 fun l => ∀ m t s d k, R.denF i115 a115 (bodyOf Tryz.f115) Tryz.f115.results.toList e115.ps e115.rs l ⟨m, t, s, d⟩ k = wrapF 4 0 sf115 l ⟨m, t, s, d⟩ k := by
  intro x0 x1 x2 x3 m t s d k
  kernel_rfl
theorem ok115 : FunOK Tryz.prog 115 e115 := fun_ok facts mixed (I := i115) (FnsOK.cons ok14 (FnsOK.cons ok16 (FnsOK.cons ok53 (FnsOK.cons ok80 (FnsOK.cons ok163 (FnsOK.cons ok164 (FnsOK.cons ok165 (FnsOK.cons ok167 (FnsOK.cons ok168 (FnsOK.cons ok169 FnsOK.nil)))))))))) Tryz.func115 (by kernel_rfl) (by kernel_rfl) (by kernel_rfl) (an := a115) (by kernel_rfl) (by kernel_rfl) q115
def sf87 : FT 2 0 := fun a1 a2 m t s d k=>
 okB (ifB (beq a1 0) false true)<|
 force (land (shiftRight m (add a1 1600)) 18446744073709551615) fun v3=>
 sf114 v3 a2 m t s d fun r4 m5 t5 s5 d5=>
 force (land (shiftRight r4 28) 131071) fun v6=>
 loopN 5 (fun (_ _ _ _ _ : Nat) => false) (fun L9 (p7 m8 t8 s8 d8 : Nat)=>
 ifB (ble (succ (xor p7 9223372036854775808)) (xor v6 9223372036854775808)) (
 okB (ble (succ p7) (land (shiftRight r4 28) 131071))<|
 okB (beq (land (shiftRight d8 (shiftRight (add (land r4 268435455) (mul p7 320)) 6)) 31) 0)<|
 force (land (shiftRight m8 (add (land r4 268435455) (mul p7 320))) (mask 5)) fun v10=>
 okB (ifB (beq a1 0) false true)<|
 force (land (shiftRight m8 (add a1 960)) 18446744073709551615) fun v11=>
 force (land (shiftRight v10 0) 18446744073709551615) fun v12=>
 sf14 v11 v12 m8 t8 s8 d8 fun r13 r14 m15 t15 s15 d15=>
 okB (beq (land (shiftRight v10 0) 18446744073709551615) (land (shiftRight v10 0) 18446744073709551615))<|
 okB (beq (land (shiftRight m15 (add a1 960)) 18446744073709551615) (land (shiftRight m8 (add a1 960)) 18446744073709551615))<|
 force r13 fun v16=>
 force (xor (xor (xor (land (shiftRight v10 0) 18446744073709551615) 36893488147419103232) (shiftLeft (land (shiftRight v10 64) 18446744073709551615) 128)) (shiftLeft (land (shiftRight v16 192) 340282366920938463463374607431768211455) 192)) fun v17=>
 sf115 a1 a2 v17 0 m15 t15 s15 d15 fun m18 t18 s18 d18=>
 force (mod (add p7 1) 18446744073709551616) fun v19=>
 L9 v19 m18 t18 s18 d18)<|
 k m8 t8 s8 d8) 0 m5 t5 s5 d5
def e87 : FunE := ⟨[.ptr (lay 104) false false, .one (.int .u64)], [], wrapF 2 0 sf87⟩
def i87 : FI := ⟨40, [5, 6], [5, 6, 13, 14, 15, 16, 19], [(14, e14), (114, e114), (115, e115)], []⟩
def a87 : An := (.sq .reg (.bl (.lp [(15, .sh (.one (.int .i64)))] 5 (.sq .reg (.sq (.cd .skip .ex) (.sq (.bl (.sq .reg (.sq (.drw [(0, 0), (1, 0), (2, 0), (3, 0), (4, 0), (5, 0), (6, 1), (7, 0), (8, 0), (9, 0), (10, 2), (11, 1), (12, 0)]) .reg))) .reg))))))
theorem q87 : AllN 2 fun l => ∀ m t s d k, R.denF i87 a87 (bodyOf Tryz.f87) Tryz.f87.results.toList e87.ps e87.rs l ⟨m, t, s, d⟩ k = wrapF 2 0 sf87 l ⟨m, t, s, d⟩ k := by
  intro x0 x1 m t s d k
  kernel_rfl
theorem ok87 : FunOK Tryz.prog 87 e87 := fun_ok facts mixed (I := i87) (FnsOK.cons ok14 (FnsOK.cons ok114 (FnsOK.cons ok115 FnsOK.nil))) Tryz.func87 (by kernel_rfl) (by kernel_rfl) (by kernel_rfl) (an := a87) (by kernel_rfl) (by kernel_rfl) q87
end
end Go.Proofs.YtaekfgbfpfecdaaGreat.VM
