/- Functions of the program, printed: U1; no conditions. -/
import Derived.Test.YtaekfgbfpfecdaaGreatU0
namespace Go.Proofs.YtaekfgbfpfecdaaGreat.VM
open Go R
open Nat (land shiftRight beq add xor shiftLeft ble succ mod mul sub div lor pow)
set_option linter.unusedVariables false
set_option maxRecDepth 1000000
noncomputable section
def sf148 : FT 3 1 := fun a1 a2 a3 m t s d k=>
 okB (ifB (beq (land (shiftRight m a2) 18446744073709551615) 0) false true)<|
 okB (ifB (beq a1 (land (shiftRight m (land (shiftRight m a2) 18446744073709551615)) 18446744073709551615)) true (ifB (beq a1 (land (shiftRight m (land (shiftRight m a2) 18446744073709551615)) 18446744073709551615)) false true))<|
 force (ifB (ifB (beq a1 (land (shiftRight m (land (shiftRight m a2) 18446744073709551615)) 18446744073709551615)) true (beq a1 (land (shiftRight m a3) 18446744073709551615))) 1 0) fun v4=>
 k v4 m t s d
def e148 : FunE := ⟨[.one (.int .i64), .ptr ([.ptr 104]) false true, .ptr ([.int .i64]) false true], [.one .bool], wrapF 3 1 sf148⟩
def i148 : FI := ⟨17, [], [4, 12], [], []⟩
def a148 : An := (.sq .reg (.sq .reg .ret))
theorem q148 : AllN 3 fun l => ∀ m t s d k, R.denF i148 a148 (bodyOf Tryz.f148) Tryz.f148.results.toList e148.ps e148.rs l ⟨m, t, s, d⟩ k = wrapF 3 1 sf148 l ⟨m, t, s, d⟩ k := by
  intro x0 x1 x2 m t s d k
  kernel_rfl
theorem ok148 : FunOK Tryz.prog 148 e148 := fun_ok facts mixed (I := i148) FnsOK.nil Tryz.func148 (by kernel_rfl) (by kernel_rfl) (by kernel_rfl) (an := a148) (by kernel_rfl) (by kernel_rfl) q148
def sf219 : FT 2 1 := fun a1 a2 m t s d k=>
 join (fun (m3 t3 s3 d3 : Nat)=>
 k 18446744073709551615 m3 t3 s3 d3) fun J4=>
 force (land (shiftRight a1 28) 131071) fun v5=>
 loopN 5 (fun (_ _ _ _ _ : Nat) => false) (fun L8 (p6 m7 t7 s7 d7 : Nat)=>
 ifB (ble (succ (xor p6 9223372036854775808)) (xor v5 9223372036854775808)) (
 okB (ble (succ p6) (land (shiftRight a1 28) 131071))<|
 okB (beq (land (shiftRight d7 (shiftRight (add (land a1 268435455) (mul p6 64)) 6)) 1) 0)<|
 ifB (beq (land a2 1023) 149) (
 force (land (shiftRight m7 (add (land a1 268435455) (mul p6 64))) 18446744073709551615) fun v9=>
 force (shiftLeft (land (shiftRight a2 10) 4194303) 6) fun v10=>
 force (shiftLeft (land (shiftRight a2 32) 4194303) 6) fun v11=>
 sf148 v9 v10 v11 m7 t7 s7 d7 fun r12 m13 t13 s13 d13=>
 ifB (beq r12 1) (
 k p6 m13 t13 s13 d13)<|
 force (mod (add p6 1) 18446744073709551616) fun v14=>
 L8 v14 m13 t13 s13 d13)<|
 false)<|
 J4 m7 t7 s7 d7) 0 m t s d
def e219 : FunE := ⟨[.sli ([.int .i64]), .one .fn], [.one (.int .i64)], wrapF 2 1 sf219⟩
def i219 : FI := ⟨19, [], [4, 5, 7, 8, 9, 16], [(148, e148)], [(16, [148])]⟩
def a219 : An := (.sq .reg (.sj [] (.sq .reg (.bl (.lp [(8, .sh (.one (.int .i64)))] 5 (.sq .reg (.sq (.cd .skip .ex) (.sq (.bl (.sq .reg (.sq .reg (.cd (.sq .reg .ret) .skip)))) .reg)))))) (.sq .reg .ret)))
theorem q219 : AllN 2 fun l => ∀ m t s d k, R.denF i219 a219 (bodyOf Tryz.f219) Tryz.f219.results.toList e219.ps e219.rs l ⟨m, t, s, d⟩ k = wrapF 2 1 sf219 l ⟨m, t, s, d⟩ k := by
  intro x0 x1 m t s d k
  kernel_rfl
theorem ok219 : FunOK Tryz.prog 219 e219 := fun_ok facts mixed (I := i219) (FnsOK.cons ok148 FnsOK.nil) Tryz.func219 (by kernel_rfl) (by kernel_rfl) (by kernel_rfl) (an := a219) (by kernel_rfl) (by kernel_rfl) q219
def sf146 : FT 2 1 := fun a1 a2 m t s d k=>
 sf219 a1 a2 m t s d fun r3 m4 t4 s4 d4=>
 ifB (beq r3 18446744073709551615) (
 k a1 m4 t4 s4 d4)<|
 join (fun (p5 m6 t6 s6 d6 : Nat)=>
 okB (ifB (ble p5 (land (shiftRight a1 28) 131071)) (ble (land (shiftRight a1 28) 131071) (land (shiftRight a1 45) 131071)) false)<|
 join (fun (m8 t8 s8 d8 : Nat)=>
 okB (ifB (ble 0 p5) (ble p5 (land (shiftRight a1 45) 131071)) false)<|
 force (ifB (beq (land a1 268435455) 0) a1 (ifB (beq (add (sub (land (shiftRight a1 45) 131071) 0) (shiftRight a1 62)) 0) 9223372036854775808 (add (land a1 268435455) (shiftLeft (add (sub p5 0) (shiftLeft (add (sub (land (shiftRight a1 45) 131071) 0) (shiftLeft (shiftRight a1 62) 17)) 17)) 28)))) fun v10=>
 k v10 m8 t8 s8 d8) fun J9=>
 clrR (ifB (beq (land a1 268435455) 0) a1 (ifB (beq (add (sub (land (shiftRight a1 45) 131071) p5) (shiftRight a1 62)) 0) 9223372036854775808 (add (add (land a1 268435455) (mul p5 64)) (shiftLeft (add (sub (land (shiftRight a1 28) 131071) p5) (shiftLeft (add (sub (land (shiftRight a1 45) 131071) p5) (shiftLeft (shiftRight a1 62) 17)) 17)) 28)))) 1 m6 t6 s6 d6 J9) fun J7=>
 force (mod (add r3 1) 18446744073709551616) fun v11=>
 loopN 5 (fun (_ _ _ _ _ _ : Nat) => false) (fun L15 (p12 p13 m14 t14 s14 d14 : Nat)=>
 ifB (ble (succ (xor p13 9223372036854775808)) (xor (land (shiftRight a1 28) 131071) 9223372036854775808)) (
 join (fun (p16 m17 t17 s17 d17 : Nat)=>
 force (mod (add p13 1) 18446744073709551616) fun v19=>
 L15 p16 v19 m17 t17 s17 d17) fun J18=>
 okB (ble (succ p13) (land (shiftRight a1 28) 131071))<|
 okB (beq (land (shiftRight d14 (shiftRight (add (land a1 268435455) (mul p13 64)) 6)) 1) 0)<|
 force (land (shiftRight m14 (add (land a1 268435455) (mul p13 64))) 18446744073709551615) fun v20=>
 ifB (beq (land a2 1023) 149) (
 force (shiftLeft (land (shiftRight a2 10) 4194303) 6) fun v21=>
 force (shiftLeft (land (shiftRight a2 32) 4194303) 6) fun v22=>
 sf148 v20 v21 v22 m14 t14 s14 d14 fun r23 m24 t24 s24 d24=>
 ifB (ifB (beq r23 1) false true) (
 okB (ble (succ p12) (land (shiftRight a1 28) 131071))<|
 okB (beq (land (shiftRight d24 (shiftRight (add (land a1 268435455) (mul p12 64)) 6)) 1) 0)<|
 force (xor (land (shiftRight m24 (add (land a1 268435455) (mul p12 64))) 18446744073709551615) v20) fun v25=>
 force (xor m24 (xor (shiftLeft v25 (add (land a1 268435455) (mul p12 64))) (mod (add v25 (add (land a1 268435455) (mul p12 64))) 2305843009213693951))) fun m26=>
 force (mod (add p12 1) 18446744073709551616) fun v27=>
 J18 v27 m26 t24 s24 d24)<|
 J18 p12 m24 t24 s24 d24)<|
 false)<|
 J7 p12 m14 t14 s14 d14) r3 v11 m4 t4 s4 d4
def e146 : FunE := ⟨[.sli ([.int .i64]), .one .fn], [.sli ([.int .i64])], wrapF 2 1 sf146⟩
def i146 : FI := ⟨42, [], [4, 5, 6, 7, 12, 19, 29], [(148, e148), (219, e219)], [(28, [148])]⟩
def a146 : An := (.sq .reg (.sq .reg (.sq (.sq .reg (.cd (.sq .reg .ret) .skip)) (.sj [(5, .sh (.one (.int .i64)))] (.sq .reg (.bl (.lp [(5, .sh (.one (.int .i64))), (6, .sh (.one (.int .i64)))] 5 (.sq (.sq .reg (.cd .skip .ex)) (.sj [(5, .sh (.one (.int .i64)))] (.bl (.sq .reg (.sq .reg (.cd (.sq .reg .reg) .skip)))) .reg))))) (.sq .reg (.sq .reg .ret))))))
theorem q146 : AllN 2 fun l => ∀ m t s d k, R.denF i146 a146 (bodyOf Tryz.f146) Tryz.f146.results.toList e146.ps e146.rs l ⟨m, t, s, d⟩ k = wrapF 2 1 sf146 l ⟨m, t, s, d⟩ k := by
  intro x0 x1 m t s d k
  kernel_rfl
theorem ok146 : FunOK Tryz.prog 146 e146 := fun_ok facts mixed (I := i146) (FnsOK.cons ok148 (FnsOK.cons ok219 FnsOK.nil)) Tryz.func146 (by kernel_rfl) (by kernel_rfl) (by kernel_rfl) (an := a146) (by kernel_rfl) (by kernel_rfl) q146
def sf147 : FT 1 1 := fun a1 m t s d k=>
 join (loopN 35 (fun (_ _ _ _ _ _ : Nat) => false) (fun L5 (p2 p3 m4 t4 s4 d4 : Nat)=>
 force (mod (add p3 1) 18446744073709551616) fun v7=>
 ifB (ble 9223372036854775841 (xor v7 9223372036854775808)) (
 k p2 m4 t4 s4 d4)<|
 join (fun (p8 m9 t9 s9 d9 : Nat)=>
 L5 p8 v7 m9 t9 s9 d9) fun J10=>
 sf14 a1 v7 m4 t4 s4 d4 fun r11 r12 m13 t13 s13 d13=>
 force r11 fun v14=>
 join (fun (r15 m16 t16 s16 d16 : Nat)=>
 okB (ifB (beq r12 1) (beq r12 1) true)<|
 ifB (ifB (beq r12 1) (beq r15 1) false) (
 force v7 fun v18=>
 join (fun (r19 m20 t20 s20 d20 : Nat)=>
 J10 r19 m20 t20 s20 d20) fun J21=>
 appR 1 p2 1 v18 m16 t16 s16 d16 J21)<|
 J10 p2 m16 t16 s16 d16) fun J17=>
 ifB (beq r12 1) (
 force v14 fun v22=>
 sf16 v22 m13 t13 s13 d13 fun r23 m24 t24 s24 d24=>
 J17 r23 m24 t24 s24 d24)<|
 J17 0 m13 t13 s13 d13)) fun J6=>
 force 1 fun v25=>
 ifB (ble 9223372036854775841 (xor v25 9223372036854775808)) (
 k 0 m t s d)<|
 join (fun (p26 m27 t27 s27 d27 : Nat)=>
 J6 p26 v25 m27 t27 s27 d27) fun J28=>
 sf14 a1 v25 m t s d fun r29 r30 m31 t31 s31 d31=>
 force r29 fun v32=>
 join (fun (r33 m34 t34 s34 d34 : Nat)=>
 okB (ifB (beq r30 1) (beq r30 1) true)<|
 ifB (ifB (beq r30 1) (beq r33 1) false) (
 force v25 fun v36=>
 join (fun (r37 m38 t38 s38 d38 : Nat)=>
 J28 r37 m38 t38 s38 d38) fun J39=>
 appR 1 0 1 v36 m34 t34 s34 d34 J39)<|
 J28 0 m34 t34 s34 d34) fun J35=>
 ifB (beq r30 1) (
 force v32 fun v40=>
 sf16 v40 m31 t31 s31 d31 fun r41 m42 t42 s42 d42=>
 J35 r41 m42 t42 s42 d42)<|
 J35 0 m31 t31 s31 d31
def e147 : FunE := ⟨[.ptr (lay 108) false false], [.sli ([.int .i64])], wrapF 1 1 sf147⟩
def i147 : FI := ⟨27, [5, 25], [2, 3, 4, 5, 6, 10, 12, 19, 22], [(14, e14), (16, e16)], []⟩
def a147 : An := (.sq .reg (.sc (.lb 0 [(3, .sh (.sli ([.int .i64]))), (4, .sh (.one (.int .i64)))] 35 (.sq .skip (.sq (.sq .reg (.sq .reg (.cd (.sq .reg .ret) .skip))) (.sj [(3, .sh (.sli ([.int .i64])))] (.sq .reg (.sq .reg (.cd .reg .skip))) .go))) (.sq .reg (.sq .reg (.sq .skip (.sq (.sq .reg (.sq .reg (.cd (.sq .reg .ret) .skip))) (.sj [(3, .sh (.sli ([.int .i64])))] (.sq .reg (.sq .reg (.cd .reg .skip))) .go))))))))
theorem q147 : AllN 1 fun l => ∀ m t s d k, R.denF i147 a147 (bodyOf Tryz.f147) Tryz.f147.results.toList e147.ps e147.rs l ⟨m, t, s, d⟩ k = wrapF 1 1 sf147 l ⟨m, t, s, d⟩ k := by
  intro x0 m t s d k
  kernel_rfl
theorem ok147 : FunOK Tryz.prog 147 e147 := fun_ok facts mixed (I := i147) (FnsOK.cons ok14 (FnsOK.cons ok16 FnsOK.nil)) Tryz.func147 (by kernel_rfl) (by kernel_rfl) (by kernel_rfl) (an := a147) (by kernel_rfl) (by kernel_rfl) q147
def sf107 : FT 2 1 := fun a1 a2 m t s d k=>
 force (shiftLeft t 6) fun v3=>
 force (add t 1) fun t4=>
 okB (ble (succ t4) 4194304)<|
 force (xor m (xor (shiftLeft a1 (shiftLeft t 6)) (mod (add a1 t) 2305843009213693951))) fun m5=>
 force (shiftLeft t4 6) fun v6=>
 force (add t4 1) fun t7=>
 okB (ble (succ t7) 4194304)<|
 force (xor m5 (xor (shiftLeft a2 (shiftLeft t4 6)) (mod (add a2 t4) 2305843009213693951))) fun m8=>
 okB (ifB (beq (land (shiftRight m8 v3) 18446744073709551615) 0) false true)<|
 force (land (shiftRight m8 (add (land (shiftRight m8 v3) 18446744073709551615) 960)) 18446744073709551615) fun v9=>
 sf147 v9 m8 t7 s d fun r10 m11 t11 s11 d11=>
 okB (ifB (ifB (beq v3 0) false (ble (succ v3) 268435456)) (ifB (beq v6 0) false (ble (succ v6) 268435456)) false)<|
 force (add (add 149 (shiftLeft (shiftRight v3 6) 10)) (shiftLeft (shiftRight v6 6) 32)) fun v12=>
 sf146 r10 v12 m11 t11 s11 d11 fun r13 m14 t14 s14 d14=>
 k r13 m14 t14 s14 d14
def e107 : FunE := ⟨[.ptr (lay 104) false false, .one (.int .i64)], [.sli ([.int .i64])], wrapF 2 1 sf107⟩
def i107 : FI := ⟨12, [], [2, 3, 4], [(146, e146), (147, e147)], []⟩
def a107 : An := (.sq .reg (.sq .reg .ret))
theorem q107 : AllN 2 fun l => ∀ m t s d k, R.denF i107 a107 (bodyOf Tryz.f107) Tryz.f107.results.toList e107.ps e107.rs l ⟨m, t, s, d⟩ k = wrapF 2 1 sf107 l ⟨m, t, s, d⟩ k := by
  intro x0 x1 m t s d k
  kernel_rfl
theorem ok107 : FunOK Tryz.prog 107 e107 := fun_ok facts mixed (I := i107) (FnsOK.cons ok146 (FnsOK.cons ok147 FnsOK.nil)) Tryz.func107 (by kernel_rfl) (by kernel_rfl) (by kernel_rfl) (an := a107) (by kernel_rfl) (by kernel_rfl) q107
def sf170 : FT 1 1 := fun a1 m t s d k=>
 force a1 fun v2=>
 force (xor (xor 0 (shiftLeft (land (shiftRight v2 320) 18446744073709551615) 320)) (shiftLeft (land (shiftRight v2 384) 18446744073709551615) 384)) fun v3=>
 force v3 fun v4=>
 k v4 m t s d
def e170 : FunE := ⟨[.agg (lay 95)], [.agg (lay 95)], wrapF 1 1 sf170⟩
def i170 : FI := ⟨8, [1, 2], [1, 2], [], []⟩
def a170 : An := (.sq .reg (.sq .reg .ret))
theorem q170 : AllN 1 fun l => ∀ m t s d k, R.denF i170 a170 (bodyOf Tryz.f170) Tryz.f170.results.toList e170.ps e170.rs l ⟨m, t, s, d⟩ k = wrapF 1 1 sf170 l ⟨m, t, s, d⟩ k := by
  intro x0 m t s d k
  kernel_rfl
theorem ok170 : FunOK Tryz.prog 170 e170 := fun_ok facts mixed (I := i170) FnsOK.nil Tryz.func170 (by kernel_rfl) (by kernel_rfl) (by kernel_rfl) (an := a170) (by kernel_rfl) (by kernel_rfl) q170
def sf116 : FT 2 2 := fun a1 a2 m t s d k=>
 force a1 fun v3=>
 join (loopN 4 (fun (_ _ _ _ _ _ : Nat) => false) (fun L7 (p4 p5 m6 t6 s6 d6 : Nat)=>
 force (xor p4 (shiftLeft (xor (land (shiftRight p4 0) 18446744073709551615) 2) 0)) fun v9=>
 force (xor v9 (shiftLeft (xor (land (shiftRight v9 256) 18446744073709551615) (mod (add (land (shiftRight v9 256) 18446744073709551615) (land (shiftRight v9 384) 18446744073709551615)) 18446744073709551616)) 256)) fun v10=>
 force v10 fun v11=>
 force v11 fun v12=>
 k v12 1 m6 t6 s6 d6)) fun J8=>
 join (loopN 4 (fun (_ _ _ _ _ _ : Nat) => false) (fun L16 (p13 p14 m15 t15 s15 d15 : Nat)=>
 force p13 fun v18=>
 force v18 fun v19=>
 k v19 0 m15 t15 s15 d15)) fun J17=>
 okB (ifB (beq (land (shiftRight v3 0) 18446744073709551615) 0) true (ifB (beq (land (shiftRight v3 0) 18446744073709551615) 0) false true))<|
 ifB (ifB (beq (land (shiftRight v3 0) 18446744073709551615) 0) true (ble (succ a2) (land (shiftRight v3 256) 18446744073709551615))) (
 J17 v3 0 m t s d)<|
 ifB (beq (land (shiftRight v3 0) 18446744073709551615) 1) (
 J8 v3 0 m t s d)<|
 force v3 fun v20=>
 sf170 v20 m t s d fun r21 m22 t22 s22 d22=>
 force r21 fun v23=>
 force v23 fun v24=>
 k v24 2 m22 t22 s22 d22
def e116 : FunE := ⟨[.agg (lay 95), .one (.int .u64)], [.agg (lay 95), .one (.int .i64)], wrapF 2 2 sf116⟩
def i116 : FI := ⟨29, [2, 4], [2, 4, 5, 9, 14, 17], [(170, e170)], []⟩
def a116 : An := (.sq .reg (.sc (.lb 1 [(2, .loc (lay 95)), (4, .loc (lay 95))] 4 (.sq .skip (.sq .reg (.sq .reg (.sq (.sq .reg .ret) .dead)))) (.lb 0 [(2, .loc (lay 95)), (4, .loc (lay 95))] 4 (.sq .skip (.sq .reg .ret)) (.sq (.sq .reg (.cd .go .skip)) (.sq (.sq .reg (.cd .go .skip)) (.sq (.sq .reg .ret) .dead)))))))
theorem q116 : AllN 2 fun l => ∀ m t s d k, R.denF i116 a116 (bodyOf Tryz.f116) Tryz.f116.results.toList e116.ps e116.rs l ⟨m, t, s, d⟩ k = wrapF 2 2 sf116 l ⟨m, t, s, d⟩ k := by
  intro x0 x1 m t s d k
  kernel_rfl
theorem ok116 : FunOK Tryz.prog 116 e116 := fun_ok facts mixed (I := i116) (FnsOK.cons ok170 FnsOK.nil) Tryz.func116 (by kernel_rfl) (by kernel_rfl) (by kernel_rfl) (an := a116) (by kernel_rfl) (by kernel_rfl) q116
def sf176 : FT 2 2 := fun a1 a2 m t s d k=>
 force a1 fun v3=>
 sf235 a2 m t s d fun r4 m5 t5 s5 d5=>
 force (mod (sub (add (land (shiftRight r4 28) 131071) 18446744073709551616) 1) 18446744073709551616) fun v6=>
 ifB (ble (succ (xor v6 9223372036854775808)) 9223372036854775809) (
 force v3 fun v7=>
 force v7 fun v8=>
 k r4 v8 m5 t5 s5 d5)<|
 false
def e176 : FunE := ⟨[.agg [.opq], .sli ([.int .i64])], [.sli ([.int .i64]), .agg [.opq]], wrapF 2 2 sf176⟩
def i176 : FI := ⟨41, [2, 5], [2, 4, 5, 6, 7, 8, 15, 18], [(235, e235)], []⟩
def a176 : An := (.sq .reg (.sc (.sq .reg (.sq .reg (.sq .skip (.sq (.sq .reg (.cd (.sq (.drw [(0, 0), (1, 0), (2, 0), (3, 1)]) .ret) .dead)) .dead))))))
theorem q176 : AllN 2 fun l => ∀ m t s d k, R.denF i176 a176 (bodyOf Tryz.f176) Tryz.f176.results.toList e176.ps e176.rs l ⟨m, t, s, d⟩ k = wrapF 2 2 sf176 l ⟨m, t, s, d⟩ k := by
  intro x0 x1 m t s d k
  kernel_rfl
theorem ok176 : FunOK Tryz.prog 176 e176 := fun_ok facts mixed (I := i176) (FnsOK.cons ok235 FnsOK.nil) Tryz.func176 (by kernel_rfl) (by kernel_rfl) (by kernel_rfl) (an := a176) (by kernel_rfl) (by kernel_rfl) q176
def sf171 : FT 3 2 := fun a1 a2 a3 m t s d k=>
 force a1 fun v4=>
 force v4 fun v5=>
 sf176 v5 a2 m t s d fun r6 r7 m8 t8 s8 d8=>
 force r7 fun v9=>
 okB (ifB (ble 0 (ifB (ble (succ (xor (ifB (ble (succ (xor a3 9223372036854775808)) (xor (land (shiftRight r6 28) 131071) 9223372036854775808)) a3 (land (shiftRight r6 28) 131071)) 9223372036854775808)) 9223372036854775808) 0 (ifB (ble (succ (xor a3 9223372036854775808)) (xor (land (shiftRight r6 28) 131071) 9223372036854775808)) a3 (land (shiftRight r6 28) 131071)))) (ble (ifB (ble (succ (xor (ifB (ble (succ (xor a3 9223372036854775808)) (xor (land (shiftRight r6 28) 131071) 9223372036854775808)) a3 (land (shiftRight r6 28) 131071)) 9223372036854775808)) 9223372036854775808) 0 (ifB (ble (succ (xor a3 9223372036854775808)) (xor (land (shiftRight r6 28) 131071) 9223372036854775808)) a3 (land (shiftRight r6 28) 131071))) (land (shiftRight r6 45) 131071)) false)<|
 force (ifB (beq (land r6 268435455) 0) r6 (ifB (beq (add (sub (land (shiftRight r6 45) 131071) 0) (shiftRight r6 62)) 0) 9223372036854775808 (add (land r6 268435455) (shiftLeft (add (sub (ifB (ble (succ (xor (ifB (ble (succ (xor a3 9223372036854775808)) (xor (land (shiftRight r6 28) 131071) 9223372036854775808)) a3 (land (shiftRight r6 28) 131071)) 9223372036854775808)) 9223372036854775808) 0 (ifB (ble (succ (xor a3 9223372036854775808)) (xor (land (shiftRight r6 28) 131071) 9223372036854775808)) a3 (land (shiftRight r6 28) 131071))) 0) (shiftLeft (add (sub (land (shiftRight r6 45) 131071) 0) (shiftLeft (shiftRight r6 62) 17)) 17)) 28)))) fun v10=>
 force v9 fun v11=>
 force v11 fun v12=>
 k v10 v12 m8 t8 s8 d8
def e171 : FunE := ⟨[.agg [.opq], .sli ([.int .i64]), .one (.int .i64)], [.sli ([.int .i64]), .agg [.opq]], wrapF 3 2 sf171⟩
def i171 : FI := ⟨23, [3, 7], [3, 6, 7, 8, 9], [(176, e176)], []⟩
def a171 : An := (.sq .reg (.sq .reg (.sq (.drw [(0, 0), (1, 0), (2, 0), (3, 0), (4, 0), (5, 0), (6, 0), (7, 0), (8, 0), (9, 1)]) .ret)))
theorem q171 : AllN 3 fun l => ∀ m t s d k, R.denF i171 a171 (bodyOf Tryz.f171) Tryz.f171.results.toList e171.ps e171.rs l ⟨m, t, s, d⟩ k = wrapF 3 2 sf171 l ⟨m, t, s, d⟩ k := by
  intro x0 x1 x2 m t s d k
  kernel_rfl
theorem ok171 : FunOK Tryz.prog 171 e171 := fun_ok facts mixed (I := i171) (FnsOK.cons ok176 FnsOK.nil) Tryz.func171 (by kernel_rfl) (by kernel_rfl) (by kernel_rfl) (an := a171) (by kernel_rfl) (by kernel_rfl) q171
def sf117 : FT 3 1 := fun a1 a2 a3 m t s d k=>
 okB (ifB (beq a1 0) false true)<|
 force (land (shiftRight m a1) 18446744073709551615) fun v4=>
 sf171 v4 a2 a3 m t s d fun r5 r6 m7 t7 s7 d7=>
 force r6 fun v8=>
 okB (ifB (beq a1 0) false true)<|
 force (xor (land (shiftRight m7 a1) 18446744073709551615) v8) fun v9=>
 force (xor m7 (xor (shiftLeft v9 a1) (mod (add v9 a1) 2305843009213693951))) fun m10=>
 k r5 m10 t7 s7 d7
def e117 : FunE := ⟨[.ptr (lay 169) false false, .sli ([.int .i64]), .one (.int .i64)], [.sli ([.int .i64])], wrapF 3 1 sf117⟩
def i117 : FI := ⟨24, [8], [6, 7, 8, 9], [(171, e171)], []⟩
def a117 : An := (.sq .reg (.sq .reg (.sq .reg (.sq .reg .ret))))
theorem q117 : AllN 3 fun l => ∀ m t s d k, R.denF i117 a117 (bodyOf Tryz.f117) Tryz.f117.results.toList e117.ps e117.rs l ⟨m, t, s, d⟩ k = wrapF 3 1 sf117 l ⟨m, t, s, d⟩ k := by
  intro x0 x1 x2 m t s d k
  kernel_rfl
theorem ok117 : FunOK Tryz.prog 117 e117 := fun_ok facts mixed (I := i117) (FnsOK.cons ok171 FnsOK.nil) Tryz.func117 (by kernel_rfl) (by kernel_rfl) (by kernel_rfl) (an := a117) (by kernel_rfl) (by kernel_rfl) q117
def sf88 : FT 2 0 := fun a1 a2 m t s d k=>
 okB (ifB (beq a1 0) false true)<|
 force (land (shiftRight m (add a1 1152)) (mask 7)) fun v3=>
 okB (ifB (beq a1 0) false true)<|
 force (land (shiftRight m (add a1 1152)) (mask 7)) fun v4=>
 sf116 v4 a2 m t s d fun r5 r6 m7 t7 s7 d7=>
 okB (ifB (beq a1 0) false true)<|
 force (xor (land (shiftRight m7 (add a1 1152)) (mask 7)) r5) fun v8=>
 force (xor m7 (xor (shiftLeft v8 (add a1 1152)) (mod (add v8 (add a1 1152)) 2305843009213693951))) fun m9=>
 okB (ifB (beq a1 0) false true)<|
 force (land (shiftRight m9 (add a1 960)) 18446744073709551615) fun v10=>
 force (land (shiftRight v3 64) 18446744073709551615) fun v11=>
 sf14 v10 v11 m9 t7 s7 d7 fun r12 r13 m14 t14 s14 d14=>
 okB (beq (land (shiftRight v3 64) 18446744073709551615) (land (shiftRight v3 64) 18446744073709551615))<|
 okB (beq (land (shiftRight m14 (add a1 960)) 18446744073709551615) (land (shiftRight m9 (add a1 960)) 18446744073709551615))<|
 force r12 fun v15=>
 ifB (beq r6 1) (
 okB (ifB (beq a1 0) false true)<|
 okB (ifB (beq a1 0) false true)<|
 force (land (shiftRight v3 64) 18446744073709551615) fun v16=>
 sf107 a1 v16 m14 t14 s14 d14 fun r17 m18 t18 s18 d18=>
 okB (beq (land (shiftRight m18 (add a1 576)) 18446744073709551615) (land (shiftRight m14 (add a1 576)) 18446744073709551615))<|
 okB (beq (land (shiftRight m18 (add a1 1088)) 18446744073709551615) (land (shiftRight m14 (add a1 1088)) 18446744073709551615))<|
 force (land (shiftRight m14 (add a1 1088)) 18446744073709551615) fun v19=>
 force (land (shiftRight m14 (add a1 576)) 18446744073709551615) fun v20=>
 sf117 v19 r17 v20 m18 t18 s18 d18 fun r21 m22 t22 s22 d22=>
 force (land (shiftRight r21 28) 131071) fun v23=>
 loopN 4 (fun (_ _ _ _ _ : Nat) => false) (fun L26 (p24 m25 t25 s25 d25 : Nat)=>
 ifB (ble (succ (xor p24 9223372036854775808)) (xor v23 9223372036854775808)) (
 false)<|
 k m25 t25 s25 d25) 0 m22 t22 s22 d22)<|
 okB (ifB (beq r6 2) (beq r6 2) true)<|
 okB (ifB (ifB (beq r6 2) (beq r13 1) false) (ifB (beq r6 2) (beq r13 1) false) true)<|
 ifB (ifB (ifB (beq r6 2) (beq r13 1) false) (beq (land (shiftRight v15 64) 18446744073709551615) 0) false) (
 force (xor v15 (shiftLeft (xor (land (shiftRight v15 64) 18446744073709551615) 1) 64)) fun v27=>
 okB (ifB (beq a1 0) false true)<|
 force v27 fun v28=>
 force (land (shiftRight m14 a1) 18446744073709551615) fun v29=>
 sf115 a1 a2 v28 v29 m14 t14 s14 d14 fun m30 t30 s30 d30=>
 k m30 t30 s30 d30)<|
 k m14 t14 s14 d14
def e88 : FunE := ⟨[.ptr (lay 104) false false, .one (.int .u64)], [], wrapF 2 0 sf88⟩
def i88 : FI := ⟨92, [4, 6], [4, 5, 6, 7, 9, 14, 26, 36, 52, 53, 54, 55, 71, 74, 77], [(14, e14), (107, e107), (115, e115), (116, e116), (117, e117)], []⟩
def a88 : An := (.sq .reg (.sq .reg (.sq (.drw [(0, 0), (1, 0), (2, 0), (3, 0), (4, 0), (5, 0), (6, 1), (7, 0), (8, 0), (9, 0), (10, 2), (11, 1), (12, 0)]) (.bl (.sq .reg (.cd (.sq (.drw [(0, 0), (1, 0), (2, 0), (3, 0), (4, 0), (5, 0), (6, 0), (8, 0), (9, 0), (10, 0), (11, 0), (12, 0), (15, 0), (7, 1), (13, 1), (14, 0)]) (.bl (.lp [(54, .sh (.one (.int .i64)))] 4 (.sq .reg (.sq (.cd .dead .ex) .dead))))) (.sq .reg (.cd (.sq .reg (.drw [(0, 0), (1, 0), (2, 0), (3, 0), (4, 0), (5, 0), (6, 0), (7, 0), (8, 1)])) .skip))))))))
theorem q88 : AllN 2 fun l => ∀ m t s d k, R.denF i88 a88 (bodyOf Tryz.f88) Tryz.f88.results.toList e88.ps e88.rs l ⟨m, t, s, d⟩ k = wrapF 2 0 sf88 l ⟨m, t, s, d⟩ k := by
  intro x0 x1 m t s d k
  kernel_rfl
theorem ok88 : FunOK Tryz.prog 88 e88 := fun_ok facts mixed (I := i88) (FnsOK.cons ok14 (FnsOK.cons ok107 (FnsOK.cons ok115 (FnsOK.cons ok116 (FnsOK.cons ok117 FnsOK.nil))))) Tryz.func88 (by kernel_rfl) (by kernel_rfl) (by kernel_rfl) (an := a88) (by kernel_rfl) (by kernel_rfl) q88
def sf200r : FT 1 2 := fun a1 m t s d k=>
 force (shiftLeft t 6) fun v2=>
 force (add t 17) fun t3=>
 okB (ble (succ t3) 4194304)<|
 force (xor (land (shiftRight m v2) (mask 17)) (xor (xor (xor (xor (xor (xor (xor (xor (xor (xor (xor (xor (xor (xor (xor 0 212770981145662882167390208) 4281743758682613485051784835097700272684662784) (shiftLeft 13631491 192)) (shiftLeft 5767169 256)) (shiftLeft 10485762 320)) (shiftLeft 7340034 384)) (shiftLeft 7340034 448)) (shiftLeft 5767169 512)) (shiftLeft 5767169 576)) (shiftLeft 5242881 640)) (shiftLeft 5242881 704)) (shiftLeft 12582914 832)) (shiftLeft 6815745 896)) (shiftLeft 8388610 960)) (shiftLeft 9437186 1024))) fun v4=>
 force (xor m (xor (shiftLeft v4 v2) (mod (add v4 v2) 2305843009213693951))) fun m5=>
 okB (ifB (ble (succ (xor a1 9223372036854775808)) 9223372036854775809) true (ifB (ble (succ (xor a1 9223372036854775808)) 9223372036854775809) false true))<|
 ifB (ifB (ble (succ (xor a1 9223372036854775808)) 9223372036854775809) true (ifB (ble (succ (xor a1 9223372036854775808)) 9223372036854775825) false true)) (
 false)<|
 okB (ble (succ a1) 17)<|
 force (land (shiftRight m5 (add v2 (mul a1 64))) 18446744073709551615) fun v6=>
 force (ifB true 1 0) fun v7=>
 k v6 v7 m5 t3 s d
def e200r : FunE := ⟨[.one (.int .i64)], [.one .str, .one .bool], wrapF 1 2 sf200r⟩
def i200r : FI := ⟨15, [], [2, 3, 4, 8, 11], [], []⟩
def a200r : An := (.sq .reg (.sq .reg (.sq (.sq .reg (.cd .dead .skip)) (.sq .reg .ret))))
theorem q200r : AllN 1 fun l => ∀ m t s d k, R.denF i200r a200r (bodyOf Tryz.f200) Tryz.f200.results.toList e200r.ps e200r.rs l ⟨m, t, s, d⟩ k = wrapF 1 2 sf200r l ⟨m, t, s, d⟩ k := by
  intro x0 m t s d k
  kernel_rfl
theorem ok200r : FunOK Tryz.prog 200 e200r := fun_ok facts mixed (I := i200r) FnsOK.nil Tryz.func200 (by kernel_rfl) (by kernel_rfl) (by kernel_rfl) (an := a200r) (by kernel_rfl) (by kernel_rfl) q200r
def sf200 : FT 1 2 := fun a0 m t s d k=>
 sf200r a0 m t s d fun r0 r1 m1 t1 s1 d1=>
 ifB (beq (shiftRight m 64) (shiftRight (land (shiftRight m1 0) (mask t)) 64)) (k r0 r1 m t s1 (mod d1 (pow 2 t)))<|
 k r0 r1 m1 t1 s1 d1
def e200 : FunE := ⟨[.one (.int .i64)], [.one .str, .one .bool], wrapF 1 2 sf200⟩
theorem q200 : AllN 1 fun l => ∀ m t s d k, resetF e200r.rs e200r.f l ⟨m, t, s, d⟩ k = wrapF 1 2 sf200 l ⟨m, t, s, d⟩ k := by
  intro x0 m t s d k
  kernel_rfl
theorem ok200 : FunOK Tryz.prog 200 e200 := FunOK.wrap (FunOK.reset (ps := e200r.ps) (rs := e200r.rs) (F := e200r.f) ok200r) q200
def sf271 : FT 1 1 := fun a1 m t s d k=>
 okB (ifB (ifB (ble (succ (xor a1 9223372036854775808)) 9223372036854775809) false true) (ifB (ble (succ (xor a1 9223372036854775808)) 9223372036854775809) false true) true)<|
 force (ifB (ifB (ifB (ble (succ (xor a1 9223372036854775808)) 9223372036854775809) false true) (ifB (ble 9223372036854775841 (xor a1 9223372036854775808)) false true) false) 1 0) fun v2=>
 k v2 m t s d
def e271 : FunE := ⟨[.one (.int .i64)], [.one .bool], wrapF 1 1 sf271⟩
def i271 : FI := ⟨9, [], [2, 5], [], []⟩
def a271 : An := (.sq .reg (.sq .reg .ret))
theorem q271 : AllN 1 fun l => ∀ m t s d k, R.denF i271 a271 (bodyOf Tryz.f271) Tryz.f271.results.toList e271.ps e271.rs l ⟨m, t, s, d⟩ k = wrapF 1 1 sf271 l ⟨m, t, s, d⟩ k := by
  intro x0 m t s d k
  kernel_rfl
theorem ok271 : FunOK Tryz.prog 271 e271 := fun_ok facts mixed (I := i271) FnsOK.nil Tryz.func271 (by kernel_rfl) (by kernel_rfl) (by kernel_rfl) (an := a271) (by kernel_rfl) (by kernel_rfl) q271
def sf306 : FT 1 1 := fun a1 m t s d k=>
 sf310 0 m t s d fun r2 m3 t3 s3 d3=>
 force (ifB (ble (succ (xor r2 9223372036854775808)) 9223372036854775808) 1 0) fun v4=>
 k v4 m3 t3 s3 d3
def e306 : FunE := ⟨[.one (.cst 1)], [.one .bool], wrapF 1 1 sf306⟩
def i306 : FI := ⟨7, [], [2], [(310, e310)], []⟩
def a306 : An := (.sq .reg (.sq .reg .ret))
theorem q306 : AllN 1 fun l => ∀ m t s d k, R.denF i306 a306 (bodyOf Tryz.f306) Tryz.f306.results.toList e306.ps e306.rs l ⟨m, t, s, d⟩ k = wrapF 1 1 sf306 l ⟨m, t, s, d⟩ k := by
  intro x0 m t s d k
  kernel_rfl
theorem ok306 : FunOK Tryz.prog 306 e306 := fun_ok facts mixed (I := i306) (FnsOK.cons ok310 FnsOK.nil) Tryz.func306 (by kernel_rfl) (by kernel_rfl) (by kernel_rfl) (an := a306) (by kernel_rfl) (by kernel_rfl) q306
def sf305 : FT 1 1 := fun a1 m t s d k=>
 join (fun (r2 m3 t3 s3 d3 : Nat)=>
 okB (ifB true true true)<|
 force (ifB (ifB true (beq r2 1) false) 1 0) fun v5=>
 k v5 m3 t3 s3 d3) fun J4=>
 ifB true (
 sf306 0 m t s d fun r6 m7 t7 s7 d7=>
 J4 r6 m7 t7 s7 d7)<|
 J4 0 m t s d
def e305 : FunE := ⟨[.one (.cst 1)], [.one .bool], wrapF 1 1 sf305⟩
def i305 : FI := ⟨9, [], [2, 5], [(306, e306)], []⟩
def a305 : An := (.sq .reg (.sq .reg .ret))
theorem q305 : AllN 1 fun l => ∀ m t s d k, R.denF i305 a305 (bodyOf Tryz.f305) Tryz.f305.results.toList e305.ps e305.rs l ⟨m, t, s, d⟩ k = wrapF 1 1 sf305 l ⟨m, t, s, d⟩ k := by
  intro x0 m t s d k
  kernel_rfl
theorem ok305 : FunOK Tryz.prog 305 e305 := fun_ok facts mixed (I := i305) (FnsOK.cons ok306 FnsOK.nil) Tryz.func305 (by kernel_rfl) (by kernel_rfl) (by kernel_rfl) (an := a305) (by kernel_rfl) (by kernel_rfl) q305
def sf272 : FT 1 1 := fun a1 m t s d k=>
 ifB (beq 306 306) (
 sf305 0 m t s d fun r2 m3 t3 s3 d3=>
 join (fun (r4 m5 t5 s5 d5 : Nat)=>
 okB (ifB (ifB (beq r2 1) false true) (ifB (beq r2 1) false true) true)<|
 force (ifB (ifB (ifB (beq r2 1) false true) (ifB (beq r4 1) false true) false) 1 0) fun v7=>
 k v7 m5 t5 s5 d5) fun J6=>
 ifB (ifB (beq r2 1) false true) (
 ifB (beq 306 306) (
 sf305 0 m3 t3 s3 d3 fun r8 m9 t9 s9 d9=>
 J6 r8 m9 t9 s9 d9)<|
 false)<|
 J6 0 m3 t3 s3 d3)<|
 false
def e272 : FunE := ⟨[.one (.cst 0)], [.one .bool], wrapF 1 1 sf272⟩
def i272 : FI := ⟨16, [], [2, 3, 9], [(305, e305)], [(7, [305]), (13, [305])]⟩
def a272 : An := (.sq .reg (.sq .reg (.sq .reg .ret)))
theorem q272 : AllN 1 fun l => ∀ m t s d k, R.denF i272 a272 (bodyOf Tryz.f272) Tryz.f272.results.toList e272.ps e272.rs l ⟨m, t, s, d⟩ k = wrapF 1 1 sf272 l ⟨m, t, s, d⟩ k := by
  intro x0 m t s d k
  kernel_rfl
theorem ok272 : FunOK Tryz.prog 272 e272 := fun_ok facts mixed (I := i272) (FnsOK.cons ok305 FnsOK.nil) Tryz.func272 (by kernel_rfl) (by kernel_rfl) (by kernel_rfl) (an := a272) (by kernel_rfl) (by kernel_rfl) q272
def sf274 : FT 1 1 := fun a1 m t s d k=>
 okB (ifB (beq a1 13) true (ifB (beq a1 13) false true))<|
 ifB (ifB (beq a1 13) true (beq a1 15)) (
 k 32 m t s d)<|
 k 8 m t s d
def e274 : FunE := ⟨[.one (.int .i64)], [.one (.int .i64)], wrapF 1 1 sf274⟩
def i274 : FI := ⟨9, [], [2, 5, 8], [], []⟩
def a274 : An := (.sq .reg (.sq (.sq .reg (.cd (.sq .reg .ret) .skip)) (.sq .reg .ret)))
theorem q274 : AllN 1 fun l => ∀ m t s d k, R.denF i274 a274 (bodyOf Tryz.f274) Tryz.f274.results.toList e274.ps e274.rs l ⟨m, t, s, d⟩ k = wrapF 1 1 sf274 l ⟨m, t, s, d⟩ k := by
  intro x0 m t s d k
  kernel_rfl
theorem ok274 : FunOK Tryz.prog 274 e274 := fun_ok facts mixed (I := i274) FnsOK.nil Tryz.func274 (by kernel_rfl) (by kernel_rfl) (by kernel_rfl) (an := a274) (by kernel_rfl) (by kernel_rfl) q274
def sf273 : FT 1 1 := fun a1 m t s d k=>
 force a1 fun v2=>
 force v2 fun v3=>
 sf80 v3 m t s d fun r4 m5 t5 s5 d5=>
 force (ifB (ifB (beq r4 1) false true) 1 0) fun v6=>
 k v6 m5 t5 s5 d5
def e273 : FunE := ⟨[.agg (lay 53)], [.one .bool], wrapF 1 1 sf273⟩
def i273 : FI := ⟨6, [1], [1, 2], [(80, e80)], []⟩
def a273 : An := (.sq .reg (.sq .reg .ret))
theorem q273 : AllN 1 fun l => ∀ m t s d k, R.denF i273 a273 (bodyOf Tryz.f273) Tryz.f273.results.toList e273.ps e273.rs l ⟨m, t, s, d⟩ k = wrapF 1 1 sf273 l ⟨m, t, s, d⟩ k := by
  intro x0 m t s d k
  kernel_rfl
theorem ok273 : FunOK Tryz.prog 273 e273 := fun_ok facts mixed (I := i273) (FnsOK.cons ok80 FnsOK.nil) Tryz.func273 (by kernel_rfl) (by kernel_rfl) (by kernel_rfl) (an := a273) (by kernel_rfl) (by kernel_rfl) q273
def sf307 : FT 2 1 := fun a1 a2 m t s d k=>
 join (fun (m3 t3 s3 d3 : Nat)=>
 k 18446744073709551615 m3 t3 s3 d3) fun J4=>
 force (land (shiftRight a1 28) 131071) fun v5=>
 loopN 6 (fun (_ _ _ _ _ : Nat) => false) (fun L8 (p6 m7 t7 s7 d7 : Nat)=>
 ifB (ble (succ (xor p6 9223372036854775808)) (xor v5 9223372036854775808)) (
 okB (ble (succ p6) (land (shiftRight a1 28) 131071))<|
 okB (beq (land (shiftRight d7 (shiftRight (add (land a1 268435455) (mul p6 320)) 6)) 31) 0)<|
 ifB (beq (land a2 1023) 274) (
 force (land (shiftRight m7 (add (land a1 268435455) (mul p6 320))) (mask 5)) fun v9=>
 sf273 v9 m7 t7 s7 d7 fun r10 m11 t11 s11 d11=>
 ifB (beq r10 1) (
 false)<|
 force (mod (add p6 1) 18446744073709551616) fun v12=>
 L8 v12 m11 t11 s11 d11)<|
 false)<|
 J4 m7 t7 s7 d7) 0 m t s d
def e307 : FunE := ⟨[.sli (lay 53), .one .fn], [.one (.int .i64)], wrapF 2 1 sf307⟩
def i307 : FI := ⟨19, [], [4, 5, 7, 8, 9, 16], [(273, e273)], [(16, [273])]⟩
def a307 : An := (.sq .reg (.sj [] (.sq .reg (.bl (.lp [(8, .sh (.one (.int .i64)))] 6 (.sq .reg (.sq (.cd .skip .ex) (.sq (.bl (.sq .reg (.sq .reg (.cd .dead .skip)))) .reg)))))) (.sq .reg .ret)))
theorem q307 : AllN 2 fun l => ∀ m t s d k, R.denF i307 a307 (bodyOf Tryz.f307) Tryz.f307.results.toList e307.ps e307.rs l ⟨m, t, s, d⟩ k = wrapF 2 1 sf307 l ⟨m, t, s, d⟩ k := by
  intro x0 x1 m t s d k
  kernel_rfl
theorem ok307 : FunOK Tryz.prog 307 e307 := fun_ok facts mixed (I := i307) (FnsOK.cons ok273 FnsOK.nil) Tryz.func307 (by kernel_rfl) (by kernel_rfl) (by kernel_rfl) (an := a307) (by kernel_rfl) (by kernel_rfl) q307
def sf275 : FT 2 1 := fun a1 a2 m t s d k=>
 sf307 a1 a2 m t s d fun r3 m4 t4 s4 d4=>
 force (ifB (ifB (ble (succ (xor r3 9223372036854775808)) 9223372036854775808) false true) 1 0) fun v5=>
 k v5 m4 t4 s4 d4
def e275 : FunE := ⟨[.sli (lay 53), .one .fn], [.one .bool], wrapF 2 1 sf275⟩
def i275 : FI := ⟨9, [], [4], [(307, e307)], []⟩
def a275 : An := (.sq .reg (.sq .reg .ret))
theorem q275 : AllN 2 fun l => ∀ m t s d k, R.denF i275 a275 (bodyOf Tryz.f275) Tryz.f275.results.toList e275.ps e275.rs l ⟨m, t, s, d⟩ k = wrapF 2 1 sf275 l ⟨m, t, s, d⟩ k := by
  intro x0 x1 m t s d k
  kernel_rfl
theorem ok275 : FunOK Tryz.prog 275 e275 := fun_ok facts mixed (I := i275) (FnsOK.cons ok307 FnsOK.nil) Tryz.func275 (by kernel_rfl) (by kernel_rfl) (by kernel_rfl) (an := a275) (by kernel_rfl) (by kernel_rfl) q275
def sf334 : FT 2 1 := fun a1 a2 m t s d k=>
 sf342 a1 a2 m t s d fun r3 m4 t4 s4 d4=>
 k r3 m4 t4 s4 d4
def e334 : FunE := ⟨[.one .str, .one (.int .u8)], [.one (.int .i64)], wrapF 2 1 sf334⟩
def i334 : FI := ⟨8, [], [4], [(342, e342)], []⟩
def a334 : An := (.sq .reg (.sq .reg .ret))
theorem q334 : AllN 2 fun l => ∀ m t s d k, R.denF i334 a334 (bodyOf Tryz.f334) Tryz.f334.results.toList e334.ps e334.rs l ⟨m, t, s, d⟩ k = wrapF 2 1 sf334 l ⟨m, t, s, d⟩ k := by
  intro x0 x1 m t s d k
  kernel_rfl
theorem ok334 : FunOK Tryz.prog 334 e334 := fun_ok facts mixed (I := i334) (FnsOK.cons ok342 FnsOK.nil) Tryz.func334 (by kernel_rfl) (by kernel_rfl) (by kernel_rfl) (an := a334) (by kernel_rfl) (by kernel_rfl) q334
def sf322 : FT 2 1 := fun a1 a2 m t s d k=>
 force (land a2 65535) fun v3=>
 okB (ifB (beq v3 0) true (ifB (beq v3 0) false true))<|
 ifB (ifB (beq v3 0) true (beq (add (land (shiftRight s (shiftRight a2 16)) (sub (shiftLeft 1 (shiftLeft (land a2 65535) 3)) 1)) (shiftLeft 1 (shiftLeft (land a2 65535) 3))) (add (land (shiftRight s (shiftRight a1 16)) (sub (shiftLeft 1 (shiftLeft (land a1 65535) 3)) 1)) (shiftLeft 1 (shiftLeft (land a1 65535) 3))))) (
 k 0 m t s d)<|
 ifB (beq v3 1) (
 okB (ble 1 (land a2 65535))<|
 force (land (shiftRight s (add (shiftRight a2 16) 0)) 255) fun v4=>
 sf334 a1 v4 m t s d fun r5 m6 t6 s6 d6=>
 k r5 m6 t6 s6 d6)<|
 false
def e322 : FunE := ⟨[.one .str, .one .str], [.one (.int .i64)], wrapF 2 1 sf322⟩
def i322 : FI := ⟨143, [], [4, 5, 6, 7, 8, 9, 10, 11, 12, 13, 16, 19, 24, 31, 36, 40, 59, 64, 73, 84, 93, 102, 107, 114, 121, 128, 132, 139], [(334, e334)], []⟩
def a322 : An := (.sq .reg (.sq .reg (.sq (.bl (.sq .reg (.cd (.sq .reg .ret) (.sq .reg (.cd (.sq .reg .ret) .dead))))) .dead)))
theorem q322 : AllN 2 fun l => ∀ m t s d k, R.denF i322 a322 (bodyOf Tryz.f322) Tryz.f322.results.toList e322.ps e322.rs l ⟨m, t, s, d⟩ k = wrapF 2 1 sf322 l ⟨m, t, s, d⟩ k := by
  intro x0 x1 m t s d k
  kernel_rfl
theorem ok322 : FunOK Tryz.prog 322 e322 := fun_ok facts mixed (I := i322) (FnsOK.cons ok334 FnsOK.nil) Tryz.func322 (by kernel_rfl) (by kernel_rfl) (by kernel_rfl) (an := a322) (by kernel_rfl) (by kernel_rfl) q322
def sf308 : FT 2 1 := fun a1 a2 m t s d k=>
 sf322 a1 a2 m t s d fun r3 m4 t4 s4 d4=>
 k r3 m4 t4 s4 d4
def e308 : FunE := ⟨[.one .str, .one .str], [.one (.int .i64)], wrapF 2 1 sf308⟩
def i308 : FI := ⟨8, [], [4], [(322, e322)], []⟩
def a308 : An := (.sq .reg (.sq .reg .ret))
theorem q308 : AllN 2 fun l => ∀ m t s d k, R.denF i308 a308 (bodyOf Tryz.f308) Tryz.f308.results.toList e308.ps e308.rs l ⟨m, t, s, d⟩ k = wrapF 2 1 sf308 l ⟨m, t, s, d⟩ k := by
  intro x0 x1 m t s d k
  kernel_rfl
theorem ok308 : FunOK Tryz.prog 308 e308 := fun_ok facts mixed (I := i308) (FnsOK.cons ok322 FnsOK.nil) Tryz.func308 (by kernel_rfl) (by kernel_rfl) (by kernel_rfl) (an := a308) (by kernel_rfl) (by kernel_rfl) q308
def sf276 : FT 2 1 := fun a1 a2 m t s d k=>
 sf308 a1 a2 m t s d fun r3 m4 t4 s4 d4=>
 force (ifB (ifB (ble (succ (xor r3 9223372036854775808)) 9223372036854775808) false true) 1 0) fun v5=>
 k v5 m4 t4 s4 d4
def e276 : FunE := ⟨[.one .str, .one .str], [.one .bool], wrapF 2 1 sf276⟩
def i276 : FI := ⟨9, [], [4], [(308, e308)], []⟩
def a276 : An := (.sq .reg (.sq .reg .ret))
theorem q276 : AllN 2 fun l => ∀ m t s d k, R.denF i276 a276 (bodyOf Tryz.f276) Tryz.f276.results.toList e276.ps e276.rs l ⟨m, t, s, d⟩ k = wrapF 2 1 sf276 l ⟨m, t, s, d⟩ k := by
  intro x0 x1 m t s d k
  kernel_rfl
theorem ok276 : FunOK Tryz.prog 276 e276 := fun_ok facts mixed (I := i276) (FnsOK.cons ok308 FnsOK.nil) Tryz.func276 (by kernel_rfl) (by kernel_rfl) (by kernel_rfl) (an := a276) (by kernel_rfl) (by kernel_rfl) q276
def sf214 : FT 1 1 := fun a1 m t s d k=>
 force a1 fun v2=>
 force (land (shiftRight v2 0) 18446744073709551615) fun v3=>
 sf200 v3 m t s d fun r4 r5 m6 t6 s6 d6=>
 join (fun (r7 m8 t8 s8 d8 : Nat)=>
 okB (ifB (ifB (beq r5 1) false true) true (ifB (ifB (beq r5 1) false true) false true))<|
 join (fun (r10 m11 t11 s11 d11 : Nat)=>
 okB (ifB (ifB (ifB (beq r5 1) false true) true (ifB (beq r7 1) false true)) true (ifB (ifB (ifB (beq r5 1) false true) true (ifB (beq r7 1) false true)) false true))<|
 ifB (ifB (ifB (ifB (beq r5 1) false true) true (ifB (beq r7 1) false true)) true (ifB (beq r10 1) false true)) (
 false)<|
 force (land (shiftRight v2 192) 18446744073709551615) fun v13=>
 sf271 v13 m11 t11 s11 d11 fun r14 m15 t15 s15 d15=>
 okB (beq (land (shiftRight v2 0) 18446744073709551615) (land (shiftRight v2 0) 18446744073709551615))<|
 okB (beq (land (shiftRight v2 576) 18446744073709551615) (land (shiftRight v2 576) 18446744073709551615))<|
 okB (beq (land (shiftRight v2 576) 18446744073709551615) (land (shiftRight v2 576) 18446744073709551615))<|
 okB (ifB (ifB (beq (add (land (shiftRight s15 (shiftRight (land (shiftRight v2 512) 18446744073709551615) 16)) (sub (shiftLeft 1 (shiftLeft (land (land (shiftRight v2 512) 18446744073709551615) 65535) 3)) 1)) (shiftLeft 1 (shiftLeft (land (land (shiftRight v2 512) 18446744073709551615) 65535) 3))) (add (land (shiftRight s15 0) 0) 1)) false true) (ifB (beq (add (land (shiftRight s11 (shiftRight (land (shiftRight v2 512) 18446744073709551615) 16)) (sub (shiftLeft 1 (shiftLeft (land (land (shiftRight v2 512) 18446744073709551615) 65535) 3)) 1)) (shiftLeft 1 (shiftLeft (land (land (shiftRight v2 512) 18446744073709551615) 65535) 3))) (add (land (shiftRight s11 0) 0) 1)) false true) (ifB (ifB (beq (add (land (shiftRight s11 (shiftRight (land (shiftRight v2 512) 18446744073709551615) 16)) (sub (shiftLeft 1 (shiftLeft (land (land (shiftRight v2 512) 18446744073709551615) 65535) 3)) 1)) (shiftLeft 1 (shiftLeft (land (land (shiftRight v2 512) 18446744073709551615) 65535) 3))) (add (land (shiftRight s11 0) 0) 1)) false true) false true))<|
 okB (beq (land (shiftRight v2 512) 18446744073709551615) (land (shiftRight v2 512) 18446744073709551615))<|
 okB (ifB (beq (add (land (shiftRight s15 (shiftRight (land (shiftRight v2 512) 18446744073709551615) 16)) (sub (shiftLeft 1 (shiftLeft (land (land (shiftRight v2 512) 18446744073709551615) 65535) 3)) 1)) (shiftLeft 1 (shiftLeft (land (land (shiftRight v2 512) 18446744073709551615) 65535) 3))) (add (land (shiftRight s15 0) 0) 1)) (beq (add (land (shiftRight s11 (shiftRight (land (shiftRight v2 512) 18446744073709551615) 16)) (sub (shiftLeft 1 (shiftLeft (land (land (shiftRight v2 512) 18446744073709551615) 65535) 3)) 1)) (shiftLeft 1 (shiftLeft (land (land (shiftRight v2 512) 18446744073709551615) 65535) 3))) (add (land (shiftRight s11 0) 0) 1)) (ifB (beq (add (land (shiftRight s11 (shiftRight (land (shiftRight v2 512) 18446744073709551615) 16)) (sub (shiftLeft 1 (shiftLeft (land (land (shiftRight v2 512) 18446744073709551615) 65535) 3)) 1)) (shiftLeft 1 (shiftLeft (land (land (shiftRight v2 512) 18446744073709551615) 65535) 3))) (add (land (shiftRight s11 0) 0) 1)) false true))<|
 okB (beq (land (shiftRight v2 512) 18446744073709551615) (land (shiftRight v2 512) 18446744073709551615))<|
 okB (beq (land (shiftRight v2 448) 18446744073709551615) (land (shiftRight v2 448) 18446744073709551615))<|
 okB true<|
 okB true<|
 okB (beq (land (shiftRight v2 256) 340282366920938463463374607431768211455) (land (shiftRight v2 256) 340282366920938463463374607431768211455))<|
 okB (beq (land (shiftRight v2 256) 340282366920938463463374607431768211455) (land (shiftRight v2 256) 340282366920938463463374607431768211455))<|
 okB (beq (land (shiftRight v2 192) 18446744073709551615) (land (shiftRight v2 192) 18446744073709551615))<|
 force (land (shiftRight v2 256) 340282366920938463463374607431768211455) fun v16=>
 sf57 v16 m15 t15 s15 d15 fun r17 m18 t18 s18 d18=>
 okB (beq (land (shiftRight v2 0) 18446744073709551615) (land (shiftRight v2 0) 18446744073709551615))<|
 okB (beq (land (shiftRight v2 576) 18446744073709551615) (land (shiftRight v2 576) 18446744073709551615))<|
 okB (beq (land (shiftRight v2 576) 18446744073709551615) (land (shiftRight v2 576) 18446744073709551615))<|
 okB (ifB (ifB (beq (add (land (shiftRight s18 (shiftRight (land (shiftRight v2 512) 18446744073709551615) 16)) (sub (shiftLeft 1 (shiftLeft (land (land (shiftRight v2 512) 18446744073709551615) 65535) 3)) 1)) (shiftLeft 1 (shiftLeft (land (land (shiftRight v2 512) 18446744073709551615) 65535) 3))) (add (land (shiftRight s18 0) 0) 1)) false true) (ifB (beq (add (land (shiftRight s11 (shiftRight (land (shiftRight v2 512) 18446744073709551615) 16)) (sub (shiftLeft 1 (shiftLeft (land (land (shiftRight v2 512) 18446744073709551615) 65535) 3)) 1)) (shiftLeft 1 (shiftLeft (land (land (shiftRight v2 512) 18446744073709551615) 65535) 3))) (add (land (shiftRight s11 0) 0) 1)) false true) (ifB (ifB (beq (add (land (shiftRight s11 (shiftRight (land (shiftRight v2 512) 18446744073709551615) 16)) (sub (shiftLeft 1 (shiftLeft (land (land (shiftRight v2 512) 18446744073709551615) 65535) 3)) 1)) (shiftLeft 1 (shiftLeft (land (land (shiftRight v2 512) 18446744073709551615) 65535) 3))) (add (land (shiftRight s11 0) 0) 1)) false true) false true))<|
 okB (beq (land (shiftRight v2 512) 18446744073709551615) (land (shiftRight v2 512) 18446744073709551615))<|
 okB (ifB (beq (add (land (shiftRight s18 (shiftRight (land (shiftRight v2 512) 18446744073709551615) 16)) (sub (shiftLeft 1 (shiftLeft (land (land (shiftRight v2 512) 18446744073709551615) 65535) 3)) 1)) (shiftLeft 1 (shiftLeft (land (land (shiftRight v2 512) 18446744073709551615) 65535) 3))) (add (land (shiftRight s18 0) 0) 1)) (beq (add (land (shiftRight s11 (shiftRight (land (shiftRight v2 512) 18446744073709551615) 16)) (sub (shiftLeft 1 (shiftLeft (land (land (shiftRight v2 512) 18446744073709551615) 65535) 3)) 1)) (shiftLeft 1 (shiftLeft (land (land (shiftRight v2 512) 18446744073709551615) 65535) 3))) (add (land (shiftRight s11 0) 0) 1)) (ifB (beq (add (land (shiftRight s11 (shiftRight (land (shiftRight v2 512) 18446744073709551615) 16)) (sub (shiftLeft 1 (shiftLeft (land (land (shiftRight v2 512) 18446744073709551615) 65535) 3)) 1)) (shiftLeft 1 (shiftLeft (land (land (shiftRight v2 512) 18446744073709551615) 65535) 3))) (add (land (shiftRight s11 0) 0) 1)) false true))<|
 okB (beq (land (shiftRight v2 512) 18446744073709551615) (land (shiftRight v2 512) 18446744073709551615))<|
 okB (beq (land (shiftRight v2 448) 18446744073709551615) (land (shiftRight v2 448) 18446744073709551615))<|
 okB true<|
 okB true<|
 okB (beq (land (shiftRight v2 256) 340282366920938463463374607431768211455) (land (shiftRight v2 256) 340282366920938463463374607431768211455))<|
 okB (beq (land (shiftRight v2 192) 18446744073709551615) (land (shiftRight v2 192) 18446744073709551615))<|
 sf40 0 m18 t18 s18 d18 fun r19 m20 t20 s20 d20=>
 okB (beq (land (shiftRight v2 0) 18446744073709551615) (land (shiftRight v2 0) 18446744073709551615))<|
 okB (beq (land (shiftRight v2 576) 18446744073709551615) (land (shiftRight v2 576) 18446744073709551615))<|
 okB (beq (land (shiftRight v2 576) 18446744073709551615) (land (shiftRight v2 576) 18446744073709551615))<|
 okB (ifB (ifB (beq (add (land (shiftRight s20 (shiftRight (land (shiftRight v2 512) 18446744073709551615) 16)) (sub (shiftLeft 1 (shiftLeft (land (land (shiftRight v2 512) 18446744073709551615) 65535) 3)) 1)) (shiftLeft 1 (shiftLeft (land (land (shiftRight v2 512) 18446744073709551615) 65535) 3))) (add (land (shiftRight s20 0) 0) 1)) false true) (ifB (beq (add (land (shiftRight s11 (shiftRight (land (shiftRight v2 512) 18446744073709551615) 16)) (sub (shiftLeft 1 (shiftLeft (land (land (shiftRight v2 512) 18446744073709551615) 65535) 3)) 1)) (shiftLeft 1 (shiftLeft (land (land (shiftRight v2 512) 18446744073709551615) 65535) 3))) (add (land (shiftRight s11 0) 0) 1)) false true) (ifB (ifB (beq (add (land (shiftRight s11 (shiftRight (land (shiftRight v2 512) 18446744073709551615) 16)) (sub (shiftLeft 1 (shiftLeft (land (land (shiftRight v2 512) 18446744073709551615) 65535) 3)) 1)) (shiftLeft 1 (shiftLeft (land (land (shiftRight v2 512) 18446744073709551615) 65535) 3))) (add (land (shiftRight s11 0) 0) 1)) false true) false true))<|
 okB (beq (land (shiftRight v2 512) 18446744073709551615) (land (shiftRight v2 512) 18446744073709551615))<|
 okB (ifB (beq (add (land (shiftRight s20 (shiftRight (land (shiftRight v2 512) 18446744073709551615) 16)) (sub (shiftLeft 1 (shiftLeft (land (land (shiftRight v2 512) 18446744073709551615) 65535) 3)) 1)) (shiftLeft 1 (shiftLeft (land (land (shiftRight v2 512) 18446744073709551615) 65535) 3))) (add (land (shiftRight s20 0) 0) 1)) (beq (add (land (shiftRight s11 (shiftRight (land (shiftRight v2 512) 18446744073709551615) 16)) (sub (shiftLeft 1 (shiftLeft (land (land (shiftRight v2 512) 18446744073709551615) 65535) 3)) 1)) (shiftLeft 1 (shiftLeft (land (land (shiftRight v2 512) 18446744073709551615) 65535) 3))) (add (land (shiftRight s11 0) 0) 1)) (ifB (beq (add (land (shiftRight s11 (shiftRight (land (shiftRight v2 512) 18446744073709551615) 16)) (sub (shiftLeft 1 (shiftLeft (land (land (shiftRight v2 512) 18446744073709551615) 65535) 3)) 1)) (shiftLeft 1 (shiftLeft (land (land (shiftRight v2 512) 18446744073709551615) 65535) 3))) (add (land (shiftRight s11 0) 0) 1)) false true))<|
 okB (beq (land (shiftRight v2 512) 18446744073709551615) (land (shiftRight v2 512) 18446744073709551615))<|
 okB (beq (land (shiftRight v2 448) 18446744073709551615) (land (shiftRight v2 448) 18446744073709551615))<|
 okB true<|
 okB (beq (land (shiftRight v2 256) 340282366920938463463374607431768211455) (land (shiftRight v2 256) 340282366920938463463374607431768211455))<|
 okB (beq (land (shiftRight v2 192) 18446744073709551615) (land (shiftRight v2 192) 18446744073709551615))<|
 okB (ifB (ifB (beq (add (land (shiftRight s11 (shiftRight (land (shiftRight v2 512) 18446744073709551615) 16)) (sub (shiftLeft 1 (shiftLeft (land (land (shiftRight v2 512) 18446744073709551615) 65535) 3)) 1)) (shiftLeft 1 (shiftLeft (land (land (shiftRight v2 512) 18446744073709551615) 65535) 3))) (add (land (shiftRight s11 0) 0) 1)) false true) (ifB (beq (add (land (shiftRight s11 (shiftRight (land (shiftRight v2 512) 18446744073709551615) 16)) (sub (shiftLeft 1 (shiftLeft (land (land (shiftRight v2 512) 18446744073709551615) 65535) 3)) 1)) (shiftLeft 1 (shiftLeft (land (land (shiftRight v2 512) 18446744073709551615) 65535) 3))) (add (land (shiftRight s11 0) 0) 1)) false true) true)<|
 force (land (shiftRight v2 0) 18446744073709551615) fun v21=>
 sf274 v21 m20 t20 s20 d20 fun r22 m23 t23 s23 d23=>
 okB (ifB (ifB (beq (add (land (shiftRight s11 (shiftRight (land (shiftRight v2 512) 18446744073709551615) 16)) (sub (shiftLeft 1 (shiftLeft (land (land (shiftRight v2 512) 18446744073709551615) 65535) 3)) 1)) (shiftLeft 1 (shiftLeft (land (land (shiftRight v2 512) 18446744073709551615) 65535) 3))) (add (land (shiftRight s11 0) 0) 1)) false true) (beq (land (shiftRight v2 512) 18446744073709551615) (land (shiftRight v2 512) 18446744073709551615)) true)<|
 okB (beq (land (shiftRight v2 576) 18446744073709551615) (land (shiftRight v2 576) 18446744073709551615))<|
 okB (beq (land (shiftRight v2 576) 18446744073709551615) (land (shiftRight v2 576) 18446744073709551615))<|
 okB (ifB (beq (add (land (shiftRight s23 (shiftRight (land (shiftRight v2 512) 18446744073709551615) 16)) (sub (shiftLeft 1 (shiftLeft (land (land (shiftRight v2 512) 18446744073709551615) 65535) 3)) 1)) (shiftLeft 1 (shiftLeft (land (land (shiftRight v2 512) 18446744073709551615) 65535) 3))) (add (land (shiftRight s23 0) 0) 1)) (beq (add (land (shiftRight s11 (shiftRight (land (shiftRight v2 512) 18446744073709551615) 16)) (sub (shiftLeft 1 (shiftLeft (land (land (shiftRight v2 512) 18446744073709551615) 65535) 3)) 1)) (shiftLeft 1 (shiftLeft (land (land (shiftRight v2 512) 18446744073709551615) 65535) 3))) (add (land (shiftRight s11 0) 0) 1)) (ifB (beq (add (land (shiftRight s11 (shiftRight (land (shiftRight v2 512) 18446744073709551615) 16)) (sub (shiftLeft 1 (shiftLeft (land (land (shiftRight v2 512) 18446744073709551615) 65535) 3)) 1)) (shiftLeft 1 (shiftLeft (land (land (shiftRight v2 512) 18446744073709551615) 65535) 3))) (add (land (shiftRight s11 0) 0) 1)) false true))<|
 okB (beq (land (shiftRight v2 512) 18446744073709551615) (land (shiftRight v2 512) 18446744073709551615))<|
 okB (beq (land (shiftRight v2 448) 18446744073709551615) (land (shiftRight v2 448) 18446744073709551615))<|
 okB true<|
 okB (beq (land (shiftRight v2 256) 340282366920938463463374607431768211455) (land (shiftRight v2 256) 340282366920938463463374607431768211455))<|
 okB (beq (land (shiftRight v2 192) 18446744073709551615) (land (shiftRight v2 192) 18446744073709551615))<|
 join (fun (r24 m25 t25 s25 d25 : Nat)=>
 okB (ifB (ifB (beq (add (land (shiftRight s11 (shiftRight (land (shiftRight v2 512) 18446744073709551615) 16)) (sub (shiftLeft 1 (shiftLeft (land (land (shiftRight v2 512) 18446744073709551615) 65535) 3)) 1)) (shiftLeft 1 (shiftLeft (land (land (shiftRight v2 512) 18446744073709551615) 65535) 3))) (add (land (shiftRight s11 0) 0) 1)) false true) (beq (land (shiftRight v2 512) 18446744073709551615) (land (shiftRight v2 512) 18446744073709551615)) true)<|
 okB (beq (land (shiftRight v2 576) 18446744073709551615) (land (shiftRight v2 576) 18446744073709551615))<|
 okB (ifB (beq (add (land (shiftRight s25 (shiftRight (land (shiftRight v2 512) 18446744073709551615) 16)) (sub (shiftLeft 1 (shiftLeft (land (land (shiftRight v2 512) 18446744073709551615) 65535) 3)) 1)) (shiftLeft 1 (shiftLeft (land (land (shiftRight v2 512) 18446744073709551615) 65535) 3))) (add (land (shiftRight s25 0) 0) 1)) (beq (add (land (shiftRight s11 (shiftRight (land (shiftRight v2 512) 18446744073709551615) 16)) (sub (shiftLeft 1 (shiftLeft (land (land (shiftRight v2 512) 18446744073709551615) 65535) 3)) 1)) (shiftLeft 1 (shiftLeft (land (land (shiftRight v2 512) 18446744073709551615) 65535) 3))) (add (land (shiftRight s11 0) 0) 1)) (ifB (beq (add (land (shiftRight s11 (shiftRight (land (shiftRight v2 512) 18446744073709551615) 16)) (sub (shiftLeft 1 (shiftLeft (land (land (shiftRight v2 512) 18446744073709551615) 65535) 3)) 1)) (shiftLeft 1 (shiftLeft (land (land (shiftRight v2 512) 18446744073709551615) 65535) 3))) (add (land (shiftRight s11 0) 0) 1)) false true))<|
 okB (beq (land (shiftRight v2 512) 18446744073709551615) (land (shiftRight v2 512) 18446744073709551615))<|
 okB (beq (land (shiftRight v2 448) 18446744073709551615) (land (shiftRight v2 448) 18446744073709551615))<|
 okB true<|
 okB (beq (land (shiftRight v2 256) 340282366920938463463374607431768211455) (land (shiftRight v2 256) 340282366920938463463374607431768211455))<|
 okB (beq (land (shiftRight v2 192) 18446744073709551615) (land (shiftRight v2 192) 18446744073709551615))<|
 okB (ifB (ifB (ble (succ (xor r22 9223372036854775808)) (xor (land (shiftRight (land (shiftRight v2 576) 18446744073709551615) 28) 131071) 9223372036854775808)) false true) (ifB (ble (succ (xor r22 9223372036854775808)) (xor (land (shiftRight (land (shiftRight v2 576) 18446744073709551615) 28) 131071) 9223372036854775808)) false true) true)<|
 force (shiftLeft t25 6) fun v27=>
 force (add t25 18) fun t28=>
 okB (ble (succ t28) 4194304)<|
 force (xor m25 (xor (shiftLeft (xor (xor (xor (xor (xor (xor (xor 5767169 (shiftLeft (ifB (beq (land (shiftRight v2 192) 18446744073709551615) 0) 1 0) 64)) (shiftLeft r14 128)) (shiftLeft (xor (xor 4194305 (shiftLeft (ifB (beq (land (shiftRight v2 256) 340282366920938463463374607431768211455) 0) 1 0) 64)) (shiftLeft (ifB (ifB (beq r17 1) false true) 1 0) 128)) 192)) (shiftLeft (xor (xor 6291457 (shiftLeft (ifB true 1 0) 64)) (shiftLeft r19 128)) 384)) (shiftLeft (xor (xor 5242881 (shiftLeft (ifB (ifB (beq (land (shiftRight v2 448) 18446744073709551615) 1) false true) 1 0) 64)) (shiftLeft (ifB true 1 0) 128)) 576)) (shiftLeft (xor (xor 4718593 (shiftLeft (ifB (beq (add (land (shiftRight s11 (shiftRight (land (shiftRight v2 512) 18446744073709551615) 16)) (sub (shiftLeft 1 (shiftLeft (land (land (shiftRight v2 512) 18446744073709551615) 65535) 3)) 1)) (shiftLeft 1 (shiftLeft (land (land (shiftRight v2 512) 18446744073709551615) 65535) 3))) (add (land (shiftRight s11 0) 0) 1)) 1 0) 64)) (shiftLeft (ifB (ifB (ifB (beq (add (land (shiftRight s11 (shiftRight (land (shiftRight v2 512) 18446744073709551615) 16)) (sub (shiftLeft 1 (shiftLeft (land (land (shiftRight v2 512) 18446744073709551615) 65535) 3)) 1)) (shiftLeft 1 (shiftLeft (land (land (shiftRight v2 512) 18446744073709551615) 65535) 3))) (add (land (shiftRight s11 0) 0) 1)) false true) (ifB (ble 9223372036854776709 (xor (land (land (shiftRight v2 512) 18446744073709551615) 65535) 9223372036854775808)) false true) false) 1 0) 128)) 768)) (shiftLeft (xor (xor 6815745 (shiftLeft (ifB (beq (land (shiftRight (land (shiftRight v2 576) 18446744073709551615) 28) 131071) 0) 1 0) 64)) (shiftLeft (ifB (ifB (ifB (ble (succ (xor r22 9223372036854775808)) (xor (land (shiftRight (land (shiftRight v2 576) 18446744073709551615) 28) 131071) 9223372036854775808)) false true) (ifB (beq r24 1) false true) false) 1 0) 128)) 960)) (shiftLeft t25 6)) (mod (add (xor (xor (xor (xor (xor (xor (xor 5767169 (shiftLeft (ifB (beq (land (shiftRight v2 192) 18446744073709551615) 0) 1 0) 64)) (shiftLeft r14 128)) (shiftLeft (xor (xor 4194305 (shiftLeft (ifB (beq (land (shiftRight v2 256) 340282366920938463463374607431768211455) 0) 1 0) 64)) (shiftLeft (ifB (ifB (beq r17 1) false true) 1 0) 128)) 192)) (shiftLeft (xor (xor 6291457 (shiftLeft (ifB true 1 0) 64)) (shiftLeft r19 128)) 384)) (shiftLeft (xor (xor 5242881 (shiftLeft (ifB (ifB (beq (land (shiftRight v2 448) 18446744073709551615) 1) false true) 1 0) 64)) (shiftLeft (ifB true 1 0) 128)) 576)) (shiftLeft (xor (xor 4718593 (shiftLeft (ifB (beq (add (land (shiftRight s11 (shiftRight (land (shiftRight v2 512) 18446744073709551615) 16)) (sub (shiftLeft 1 (shiftLeft (land (land (shiftRight v2 512) 18446744073709551615) 65535) 3)) 1)) (shiftLeft 1 (shiftLeft (land (land (shiftRight v2 512) 18446744073709551615) 65535) 3))) (add (land (shiftRight s11 0) 0) 1)) 1 0) 64)) (shiftLeft (ifB (ifB (ifB (beq (add (land (shiftRight s11 (shiftRight (land (shiftRight v2 512) 18446744073709551615) 16)) (sub (shiftLeft 1 (shiftLeft (land (land (shiftRight v2 512) 18446744073709551615) 65535) 3)) 1)) (shiftLeft 1 (shiftLeft (land (land (shiftRight v2 512) 18446744073709551615) 65535) 3))) (add (land (shiftRight s11 0) 0) 1)) false true) (ifB (ble 9223372036854776709 (xor (land (land (shiftRight v2 512) 18446744073709551615) 65535) 9223372036854775808)) false true) false) 1 0) 128)) 768)) (shiftLeft (xor (xor 6815745 (shiftLeft (ifB (beq (land (shiftRight (land (shiftRight v2 576) 18446744073709551615) 28) 131071) 0) 1 0) 64)) (shiftLeft (ifB (ifB (ifB (ble (succ (xor r22 9223372036854775808)) (xor (land (shiftRight (land (shiftRight v2 576) 18446744073709551615) 28) 131071) 9223372036854775808)) false true) (ifB (beq r24 1) false true) false) 1 0) 128)) 960)) t25) 2305843009213693951))) fun m29=>
 force (add v27 4611897126270533632) fun v30=>
 join (fun (m31 t31 s31 d31 : Nat)=>
 force (ifB true 1 0) fun v33=>
 k v33 m31 t31 s31 d31) fun J32=>
 force (land (shiftRight v30 28) 131071) fun v34=>
 loopN 10 (fun (_ _ _ _ _ : Nat) => false) (fun L37 (p35 m36 t36 s36 d36 : Nat)=>
 ifB (ble (succ (xor p35 9223372036854775808)) (xor v34 9223372036854775808)) (
 okB (ble (succ p35) (land (shiftRight v30 28) 131071))<|
 okB (beq (land (shiftRight d36 (shiftRight (add (land v30 268435455) (mul p35 192)) 6)) 7) 0)<|
 force (land (shiftRight m36 (add (land v30 268435455) (mul p35 192))) 6277101735386680763835789423207666416102355444464034512895) fun v38=>
 force (land (shiftRight v38 0) 18446744073709551615) fun v39=>
 sf276 r4 v39 m36 t36 s36 d36 fun r40 m41 t41 s41 d41=>
 okB (ifB (beq r40 1) (beq r40 1) true)<|
 okB (ifB (ifB (ifB (beq r40 1) (ifB (beq (land (shiftRight v38 128) 18446744073709551615) 1) false true) false) false true) (ifB (ifB (beq r40 1) false true) (ifB (ifB (ifB (beq r40 1) (ifB (beq (land (shiftRight v38 128) 18446744073709551615) 1) false true) false) false true) (ifB (beq r40 1) false true) false) true) true)<|
 okB (ifB (ifB (beq r40 1) (ifB (beq (land (shiftRight v38 128) 18446744073709551615) 1) false true) false) true (ifB (ifB (beq r40 1) (ifB (beq (land (shiftRight v38 128) 18446744073709551615) 1) false true) false) false true))<|
 ifB (ifB (ifB (beq r40 1) (ifB (beq (land (shiftRight v38 128) 18446744073709551615) 1) false true) false) true (ifB (ifB (beq r40 1) false true) (ifB (beq (land (shiftRight v38 64) 18446744073709551615) 1) false true) false)) (
 false)<|
 force (mod (add p35 1) 18446744073709551616) fun v42=>
 L37 v42 m41 t41 s41 d41)<|
 J32 m36 t36 s36 d36) 0 m29 t28 s25 d25) fun J26=>
 ifB (ifB (ble (succ (xor r22 9223372036854775808)) (xor (land (shiftRight (land (shiftRight v2 576) 18446744073709551615) 28) 131071) 9223372036854775808)) false true) (
 force (land (shiftRight v2 576) 18446744073709551615) fun v43=>
 sf275 v43 274 m23 t23 s23 d23 fun r44 m45 t45 s45 d45=>
 J26 r44 m45 t45 s45 d45)<|
 J26 0 m23 t23 s23 d23) fun J12=>
 ifB (ifB (ifB (ifB (beq r5 1) false true) true (ifB (beq r7 1) false true)) false true) (
 sf272 0 m8 t8 s8 d8 fun r46 m47 t47 s47 d47=>
 J12 r46 m47 t47 s47 d47)<|
 J12 0 m8 t8 s8 d8) fun J9=>
 ifB (ifB (ifB (beq r5 1) false true) false true) (
 force (land (shiftRight v2 64) 18446744073709551615) fun v48=>
 sf271 v48 m6 t6 s6 d6 fun r49 m50 t50 s50 d50=>
 J9 r49 m50 t50 s50 d50)<|
 J9 0 m6 t6 s6 d6
def e214 : FunE := ⟨[.agg (lay 227)], [.one .bool], wrapF 1 1 sf214⟩
def i214 : FI := ⟨116, [1, 8], [1, 2, 3, 4, 5, 6, 8, 9, 10, 18, 24, 29, 63, 81, 90, 91, 92, 93, 101, 106, 109, 114], [(40, e40), (57, e57), (200, e200), (271, e271), (272, e272), (274, e274), (275, e275), (276, e276)], []⟩
def a214 : An := (.sq .reg (.sq .reg (.sq (.sq .reg (.cd .dead .skip)) (.sq .reg (.sq (.drw [(0, 0), (1, 0), (2, 0), (3, 0), (4, 0), (7, 0), (8, 0), (9, 0), (10, 0), (11, 0), (12, 0), (16, 0), (17, 0), (18, 0), (19, 0), (20, 0), (23, 0), (24, 0), (25, 0), (26, 0), (27, 0), (28, 0), (29, 0), (30, 0), (31, 0), (32, 0), (40, 0), (41, 0), (42, 0), (43, 0), (44, 0), (45, 0), (46, 0), (47, 0), (48, 0), (5, 1), (6, 0), (13, 1), (14, 0), (15, 0), (21, 1), (22, 0), (33, 0), (34, 0), (35, 0), (36, 0), (37, 0), (38, 0), (39, 0), (49, 1), (50, 0), (51, 0), (52, 0), (53, 0), (54, 0), (55, 1), (56, 0), (57, 0), (58, 0), (59, 1), (60, 0)]) (.sj [] (.sq .reg (.bl (.lp [(92, .sh (.one (.int .i64)))] 10 (.sq .reg (.sq (.cd .skip .ex) (.sq (.bl (.sq .reg (.sq .reg (.sq .reg (.cd .dead .skip))))) .reg)))))) (.sq .reg .ret)))))))
theorem q214 : AllN 1 fun l => ∀ m t s d k, R.denF i214 a214 (bodyOf Tryz.f214) Tryz.f214.results.toList e214.ps e214.rs l ⟨m, t, s, d⟩ k = wrapF 1 1 sf214 l ⟨m, t, s, d⟩ k := by
  intro x0 m t s d k
  kernel_rfl
theorem ok214 : FunOK Tryz.prog 214 e214 := fun_ok facts mixed (I := i214) (FnsOK.cons ok40 (FnsOK.cons ok57 (FnsOK.cons ok200 (FnsOK.cons ok271 (FnsOK.cons ok272 (FnsOK.cons ok274 (FnsOK.cons ok275 (FnsOK.cons ok276 FnsOK.nil)))))))) Tryz.func214 (by kernel_rfl) (by kernel_rfl) (by kernel_rfl) (an := a214) (by kernel_rfl) (by kernel_rfl) q214
def sf215 : FT 2 1 := fun a1 a2 m t s d k=>
 okB (ifB (ble (succ (xor a2 9223372036854775808)) 9223372036854775809) true (ifB (ble (succ (xor a2 9223372036854775808)) 9223372036854775809) false true))<|
 ifB (ifB (ble (succ (xor a2 9223372036854775808)) 9223372036854775809) true (ble 9223372036854775817 (xor a2 9223372036854775808))) (
 false)<|
 force (shiftLeft t 6) fun v3=>
 force (add t 8) fun t4=>
 okB (ble (succ t4) 4194304)<|
 join (fun (m5 t5 s5 d5 : Nat)=>
 okB (ifB (ble 0 a2) (ifB (ble a2 8) (ble (succ v3) 134217728) false) false)<|
 force (lg s5) fun v7=>
 force (land (shiftRight (add (add v3 0) (shiftLeft (add (sub a2 0) 17180917760) 28)) 28) 131071) fun v8=>
 okB (ifB (ble (succ v8) 65536) (ifB (ble (succ v7) 8796093022208) (beq (land (shiftRight d5 (shiftRight (land (add (add v3 0) (shiftLeft (add (sub a2 0) 17180917760) 28)) 268435455) 6)) (sub (shiftLeft 1 (mul (land (shiftRight (add (add v3 0) (shiftLeft (add (sub a2 0) 17180917760) 28)) 28) 131071) 1)) 1)) 0) false) false)<|
 force (packB m5 (land (add (add v3 0) (shiftLeft (add (sub a2 0) 17180917760) 28)) 268435455) v8) fun v9=>
 force (add s5 (add (shiftLeft v9 (lg s5)) (shiftLeft v8 3))) fun s10=>
 force (add (shiftLeft v7 16) v8) fun v11=>
 k v11 m5 t5 s10 d5) fun J6=>
 loopN 8 (fun (_ _ _ _ _ : Nat) => false) (fun L14 (p12 m13 t13 s13 d13 : Nat)=>
 ifB (ble (succ (xor p12 9223372036854775808)) (xor a2 9223372036854775808)) (
 okB (ble (succ (mod (mul 8 (mod (sub (add (mod (sub (add a2 18446744073709551616) 1) 18446744073709551616) 18446744073709551616) p12) 18446744073709551616)) 18446744073709551616)) 64)<|
 okB (ble (succ p12) 8)<|
 force (xor (land (shiftRight m13 (add v3 (mul p12 64))) 18446744073709551615) (mod (shiftRight a1 (mod (mul 8 (mod (sub (add (mod (sub (add a2 18446744073709551616) 1) 18446744073709551616) 18446744073709551616) p12) 18446744073709551616)) 18446744073709551616)) 256)) fun v15=>
 force (xor m13 (xor (shiftLeft v15 (add v3 (mul p12 64))) (mod (add v15 (add v3 (mul p12 64))) 2305843009213693951))) fun m16=>
 force (mod (add p12 1) 18446744073709551616) fun v17=>
 L14 v17 m16 t13 s13 d13)<|
 J6 m13 t13 s13 d13) 0 m t4 s d
def e215 : FunE := ⟨[.one (.int .u64), .one (.int .i64)], [.one .str], wrapF 2 1 sf215⟩
def i215 : FI := ⟨31, [], [4, 5, 6, 9, 12, 13, 14, 15], [], []⟩
def a215 : An := (.sq .reg (.sq (.sq .reg (.cd .dead .skip)) (.sq .reg (.sj [] (.sq .reg (.bl (.lp [(14, .sh (.one (.int .i64)))] 8 (.sq .reg (.sq (.cd .skip .ex) (.sq (.bl (.sq .reg .reg)) .reg)))))) (.sq .reg .ret)))))
theorem q215 : AllN 2 fun l => ∀ m t s d k, R.denF i215 a215 (bodyOf Tryz.f215) Tryz.f215.results.toList e215.ps e215.rs l ⟨m, t, s, d⟩ k = wrapF 2 1 sf215 l ⟨m, t, s, d⟩ k := by
  intro x0 x1 m t s d k
  kernel_rfl
theorem ok215 : FunOK Tryz.prog 215 e215 := fun_ok facts mixed (I := i215) FnsOK.nil Tryz.func215 (by kernel_rfl) (by kernel_rfl) (by kernel_rfl) (an := a215) (by kernel_rfl) (by kernel_rfl) q215
def sf216 : FT 1 1 := fun a1 m t s d k=>
 force a1 fun v2=>
 force (land (shiftRight v2 0) 18446744073709551615) fun v3=>
 sf215 v3 4 m t s d fun r4 m5 t5 s5 d5=>
 okB (beq (land (shiftRight v2 64) 18446744073709551615) (land (shiftRight v2 64) 18446744073709551615))<|
 force (land (shiftRight v2 64) 18446744073709551615) fun v6=>
 sf215 v6 2 m5 t5 s5 d5 fun r7 m8 t8 s8 d8=>
 force (lg s8) fun v9=>
 force (add (land r4 65535) (land r7 65535)) fun v10=>
 okB (ifB (ble (succ v10) 65536) (ble (succ v9) 8796093022208) false)<|
 force (add s8 (add (shiftLeft (add (land (shiftRight s8 (shiftRight r4 16)) (sub (shiftLeft 1 (shiftLeft (land r4 65535) 3)) 1)) (shiftLeft (land (shiftRight s8 (shiftRight r7 16)) (sub (shiftLeft 1 (shiftLeft (land r7 65535) 3)) 1)) (shiftLeft (land r4 65535) 3))) (lg s8)) (shiftLeft (add (land r4 65535) (land r7 65535)) 3))) fun s11=>
 force (add (shiftLeft v9 16) v10) fun v12=>
 k v12 m8 t8 s11 d8
def e216 : FunE := ⟨[.agg (lay 44)], [.one .str], wrapF 1 1 sf216⟩
def i216 : FI := ⟨12, [1], [1, 2], [(215, e215)], []⟩
def a216 : An := (.sq .reg (.sq (.drw [(0, 0), (1, 0), (2, 0), (4, 0), (5, 0), (6, 0), (3, 1), (7, 1), (8, 0), (9, 0)]) .ret))
theorem q216 : AllN 1 fun l => ∀ m t s d k, R.denF i216 a216 (bodyOf Tryz.f216) Tryz.f216.results.toList e216.ps e216.rs l ⟨m, t, s, d⟩ k = wrapF 1 1 sf216 l ⟨m, t, s, d⟩ k := by
  intro x0 m t s d k
  kernel_rfl
theorem ok216 : FunOK Tryz.prog 216 e216 := fun_ok facts mixed (I := i216) (FnsOK.cons ok215 FnsOK.nil) Tryz.func216 (by kernel_rfl) (by kernel_rfl) (by kernel_rfl) (an := a216) (by kernel_rfl) (by kernel_rfl) q216
def sf217 : FT 1 2 := fun a1 m t s d k=>
 sf40 0 m t s d fun r2 m3 t3 s3 d3=>
 ifB (ifB (beq r2 1) false true) (
 false)<|
 sf215 1000000 4 m3 t3 s3 d3 fun r4 m5 t5 s5 d5=>
 sf215 1000000 4 m5 t5 s5 d5 fun r6 m7 t7 s7 d7=>
 force (lg s7) fun v8=>
 force (add (land r4 65535) (land r6 65535)) fun v9=>
 okB (ifB (ble (succ v9) 65536) (ble (succ v8) 8796093022208) false)<|
 force (add s7 (add (shiftLeft (add (land (shiftRight s7 (shiftRight r4 16)) (sub (shiftLeft 1 (shiftLeft (land r4 65535) 3)) 1)) (shiftLeft (land (shiftRight s7 (shiftRight r6 16)) (sub (shiftLeft 1 (shiftLeft (land r6 65535) 3)) 1)) (shiftLeft (land r4 65535) 3))) (lg s7)) (shiftLeft (add (land r4 65535) (land r6 65535)) 3))) fun s10=>
 force (add (shiftLeft v8 16) v9) fun v11=>
 force (ifB true 1 0) fun v12=>
 k v11 v12 m7 t7 s10 d7
def e217 : FunE := ⟨[.one (.cst 0)], [.one .str, .one .bool], wrapF 1 2 sf217⟩
def i217 : FI := ⟨19, [], [2, 3, 4, 7], [(40, e40), (215, e215)], []⟩
def a217 : An := (.sq .reg (.sq (.sq .reg (.cd .dead .skip)) (.sq .reg (.sq .reg .ret))))
theorem q217 : AllN 1 fun l => ∀ m t s d k, R.denF i217 a217 (bodyOf Tryz.f217) Tryz.f217.results.toList e217.ps e217.rs l ⟨m, t, s, d⟩ k = wrapF 1 2 sf217 l ⟨m, t, s, d⟩ k := by
  intro x0 m t s d k
  kernel_rfl
theorem ok217 : FunOK Tryz.prog 217 e217 := fun_ok facts mixed (I := i217) (FnsOK.cons ok40 (FnsOK.cons ok215 FnsOK.nil)) Tryz.func217 (by kernel_rfl) (by kernel_rfl) (by kernel_rfl) (an := a217) (by kernel_rfl) (by kernel_rfl) q217
def sf218 : FT 1 2 := fun a1 m t s d k=>
 force a1 fun v2=>
 force v2 fun v3=>
 sf80 v3 m t s d fun r4 m5 t5 s5 d5=>
 ifB (ifB (beq r4 1) false true) (
 false)<|
 force (land (shiftRight v2 0) 18446744073709551615) fun v6=>
 sf215 v6 1 m5 t5 s5 d5 fun r7 m8 t8 s8 d8=>
 okB (beq (land (shiftRight v2 192) 340282366920938463463374607431768211455) (land (shiftRight v2 192) 340282366920938463463374607431768211455))<|
 okB (beq (land (shiftRight v2 128) 18446744073709551615) (land (shiftRight v2 128) 18446744073709551615))<|
 okB (beq (land (shiftRight v2 64) 18446744073709551615) (land (shiftRight v2 64) 18446744073709551615))<|
 force (land (shiftRight v2 64) 18446744073709551615) fun v9=>
 sf215 v9 1 m8 t8 s8 d8 fun r10 m11 t11 s11 d11=>
 okB (beq (land (shiftRight v2 192) 340282366920938463463374607431768211455) (land (shiftRight v2 192) 340282366920938463463374607431768211455))<|
 okB (beq (land (shiftRight v2 128) 18446744073709551615) (land (shiftRight v2 128) 18446744073709551615))<|
 force (lg s11) fun v12=>
 force (add (land r7 65535) (land r10 65535)) fun v13=>
 okB (ifB (ble (succ v13) 65536) (ble (succ v12) 8796093022208) false)<|
 force (add s11 (add (shiftLeft (add (land (shiftRight s11 (shiftRight r7 16)) (sub (shiftLeft 1 (shiftLeft (land r7 65535) 3)) 1)) (shiftLeft (land (shiftRight s11 (shiftRight r10 16)) (sub (shiftLeft 1 (shiftLeft (land r10 65535) 3)) 1)) (shiftLeft (land r7 65535) 3))) (lg s11)) (shiftLeft (add (land r7 65535) (land r10 65535)) 3))) fun s14=>
 force (land (shiftRight v2 128) 18446744073709551615) fun v15=>
 sf215 v15 4 m11 t11 s14 d11 fun r16 m17 t17 s17 d17=>
 okB (beq (land (shiftRight v2 192) 340282366920938463463374607431768211455) (land (shiftRight v2 192) 340282366920938463463374607431768211455))<|
 force (lg s17) fun v18=>
 force (add (land (add (shiftLeft v12 16) v13) 65535) (land r16 65535)) fun v19=>
 okB (ifB (ble (succ v19) 65536) (ble (succ v18) 8796093022208) false)<|
 force (add s17 (add (shiftLeft (add (land (shiftRight s17 (shiftRight (add (shiftLeft v12 16) v13) 16)) (sub (shiftLeft 1 (shiftLeft (land (add (shiftLeft v12 16) v13) 65535) 3)) 1)) (shiftLeft (land (shiftRight s17 (shiftRight r16 16)) (sub (shiftLeft 1 (shiftLeft (land r16 65535) 3)) 1)) (shiftLeft (land (add (shiftLeft v12 16) v13) 65535) 3))) (lg s17)) (shiftLeft (add (land (add (shiftLeft v12 16) v13) 65535) (land r16 65535)) 3))) fun s20=>
 force (land (shiftRight v2 192) 340282366920938463463374607431768211455) fun v21=>
 sf216 v21 m17 t17 s20 d17 fun r22 m23 t23 s23 d23=>
 force (lg s23) fun v24=>
 force (add (land (add (shiftLeft v18 16) v19) 65535) (land r22 65535)) fun v25=>
 okB (ifB (ble (succ v25) 65536) (ble (succ v24) 8796093022208) false)<|
 force (add s23 (add (shiftLeft (add (land (shiftRight s23 (shiftRight (add (shiftLeft v18 16) v19) 16)) (sub (shiftLeft 1 (shiftLeft (land (add (shiftLeft v18 16) v19) 65535) 3)) 1)) (shiftLeft (land (shiftRight s23 (shiftRight r22 16)) (sub (shiftLeft 1 (shiftLeft (land r22 65535) 3)) 1)) (shiftLeft (land (add (shiftLeft v18 16) v19) 65535) 3))) (lg s23)) (shiftLeft (add (land (add (shiftLeft v18 16) v19) 65535) (land r22 65535)) 3))) fun s26=>
 force (add (shiftLeft v24 16) v25) fun v27=>
 force (ifB true 1 0) fun v28=>
 k v27 v28 m23 t23 s26 d23
def e218 : FunE := ⟨[.agg (lay 53)], [.one .str, .one .bool], wrapF 1 2 sf218⟩
def i218 : FI := ⟨25, [1], [1, 2, 3, 6], [(80, e80), (215, e215), (216, e216)], []⟩
def a218 : An := (.sq .reg (.sq (.sq .reg (.cd .dead .skip)) (.sq (.drw [(0, 0), (1, 0), (2, 0), (4, 0), (5, 0), (6, 0), (9, 0), (10, 0), (11, 0), (14, 0), (15, 0), (3, 1), (7, 1), (8, 0), (12, 1), (13, 0), (16, 1), (17, 0), (18, 0), (19, 0)]) .ret)))
theorem q218 : AllN 1 fun l => ∀ m t s d k, R.denF i218 a218 (bodyOf Tryz.f218) Tryz.f218.results.toList e218.ps e218.rs l ⟨m, t, s, d⟩ k = wrapF 1 2 sf218 l ⟨m, t, s, d⟩ k := by
  intro x0 m t s d k
  kernel_rfl
theorem ok218 : FunOK Tryz.prog 218 e218 := fun_ok facts mixed (I := i218) (FnsOK.cons ok80 (FnsOK.cons ok215 (FnsOK.cons ok216 FnsOK.nil))) Tryz.func218 (by kernel_rfl) (by kernel_rfl) (by kernel_rfl) (an := a218) (by kernel_rfl) (by kernel_rfl) q218
def sf145r : FT 1 2 := fun a1 m t s d k=>
 force a1 fun v2=>
 force v2 fun v3=>
 sf214 v3 m t s d fun r4 m5 t5 s5 d5=>
 ifB (ifB (beq r4 1) false true) (
 false)<|
 force (land (shiftRight v2 0) 18446744073709551615) fun v6=>
 sf200 v6 m5 t5 s5 d5 fun r7 r8 m9 t9 s9 d9=>
 force (land (shiftRight v2 0) 18446744073709551615) fun v10=>
 sf215 v10 1 m9 t9 s9 d9 fun r11 m12 t12 s12 d12=>
 okB (beq (land (shiftRight v2 128) 18446744073709551615) (land (shiftRight v2 128) 18446744073709551615))<|
 okB (beq (land (shiftRight v2 64) 18446744073709551615) (land (shiftRight v2 64) 18446744073709551615))<|
 force (land (shiftRight v2 64) 18446744073709551615) fun v13=>
 sf215 v13 1 m12 t12 s12 d12 fun r14 m15 t15 s15 d15=>
 okB (beq (land (shiftRight v2 128) 18446744073709551615) (land (shiftRight v2 128) 18446744073709551615))<|
 force (lg s15) fun v16=>
 force (add (land r11 65535) (land r14 65535)) fun v17=>
 okB (ifB (ble (succ v17) 65536) (ble (succ v16) 8796093022208) false)<|
 force (add s15 (add (shiftLeft (add (land (shiftRight s15 (shiftRight r11 16)) (sub (shiftLeft 1 (shiftLeft (land r11 65535) 3)) 1)) (shiftLeft (land (shiftRight s15 (shiftRight r14 16)) (sub (shiftLeft 1 (shiftLeft (land r14 65535) 3)) 1)) (shiftLeft (land r11 65535) 3))) (lg s15)) (shiftLeft (add (land r11 65535) (land r14 65535)) 3))) fun s18=>
 force (land (shiftRight v2 128) 18446744073709551615) fun v19=>
 sf215 v19 4 m15 t15 s18 d15 fun r20 m21 t21 s21 d21=>
 force (lg s21) fun v22=>
 force (add (land (add (shiftLeft v16 16) v17) 65535) (land r20 65535)) fun v23=>
 okB (ifB (ble (succ v23) 65536) (ble (succ v22) 8796093022208) false)<|
 force (add s21 (add (shiftLeft (add (land (shiftRight s21 (shiftRight (add (shiftLeft v16 16) v17) 16)) (sub (shiftLeft 1 (shiftLeft (land (add (shiftLeft v16 16) v17) 65535) 3)) 1)) (shiftLeft (land (shiftRight s21 (shiftRight r20 16)) (sub (shiftLeft 1 (shiftLeft (land r20 65535) 3)) 1)) (shiftLeft (land (add (shiftLeft v16 16) v17) 65535) 3))) (lg s21)) (shiftLeft (add (land (add (shiftLeft v16 16) v17) 65535) (land r20 65535)) 3))) fun s24=>
 force (add (shiftLeft v22 16) v23) fun v25=>
 join (fun (p26 m27 t27 s27 d27 : Nat)=>
 ifB (ble 9223372036854776833 (xor (land p26 65535) 9223372036854775808)) (
 false)<|
 force (ifB true 1 0) fun v29=>
 k p26 v29 m27 t27 s27 d27) fun J28=>
 force (add (shiftLeft r7 16) 0) fun v111=>
 loopN 6 (fun (_ _ _ _ _ _ _ : Nat) => false) (fun L34 (p30 p31 p32 m33 t33 s33 d33 : Nat)=>
 ifB (ble (succ (land p32 65535)) (land (shiftRight p32 16) 65535)) (
 force (land (shiftRight s33 (add (shiftRight (shiftRight p32 16) 16) (shiftLeft (land p32 65535) 3))) 255) fun v35=>
 okB (ble (succ v35) 128)<|
 force (succ (land p32 65535)) fun v36=>
 ifB true (
 ifB (beq v35 110) (
 force (land (shiftRight p30 192) 18446744073709551615) fun v37=>
 sf215 v37 1 m33 t33 s33 d33 fun r38 m39 t39 s39 d39=>
 force (lg s39) fun v40=>
 force (add (land p31 65535) (land r38 65535)) fun v41=>
 okB (ifB (ble (succ v41) 65536) (ble (succ v40) 8796093022208) false)<|
 force (add s39 (add (shiftLeft (add (land (shiftRight s39 (shiftRight p31 16)) (sub (shiftLeft 1 (shiftLeft (land p31 65535) 3)) 1)) (shiftLeft (land (shiftRight s39 (shiftRight r38 16)) (sub (shiftLeft 1 (shiftLeft (land r38 65535) 3)) 1)) (shiftLeft (land p31 65535) 3))) (lg s39)) (shiftLeft (add (land p31 65535) (land r38 65535)) 3))) fun s42=>
 force (add (shiftLeft v40 16) v41) fun v43=>
 force (add (shiftLeft (shiftRight p32 16) 16) v36) fun v44=>
 L34 p30 v43 v44 m39 t39 s42 d39)<|
 ifB (beq v35 97) (
 force (land (shiftRight p30 256) 340282366920938463463374607431768211455) fun v45=>
 sf216 v45 m33 t33 s33 d33 fun r46 m47 t47 s47 d47=>
 force (lg s47) fun v48=>
 force (add (land p31 65535) (land r46 65535)) fun v49=>
 okB (ifB (ble (succ v49) 65536) (ble (succ v48) 8796093022208) false)<|
 force (add s47 (add (shiftLeft (add (land (shiftRight s47 (shiftRight p31 16)) (sub (shiftLeft 1 (shiftLeft (land p31 65535) 3)) 1)) (shiftLeft (land (shiftRight s47 (shiftRight r46 16)) (sub (shiftLeft 1 (shiftLeft (land r46 65535) 3)) 1)) (shiftLeft (land p31 65535) 3))) (lg s47)) (shiftLeft (add (land p31 65535) (land r46 65535)) 3))) fun s50=>
 force (add (shiftLeft v48 16) v49) fun v51=>
 force (add (shiftLeft (shiftRight p32 16) 16) v36) fun v52=>
 L34 p30 v51 v52 m47 t47 s50 d47)<|
 ifB (beq v35 112) (
 sf217 0 m33 t33 s33 d33 fun r53 r54 m55 t55 s55 d55=>
 force (lg s55) fun v56=>
 force (add (land p31 65535) (land r53 65535)) fun v57=>
 okB (ifB (ble (succ v57) 65536) (ble (succ v56) 8796093022208) false)<|
 force (add s55 (add (shiftLeft (add (land (shiftRight s55 (shiftRight p31 16)) (sub (shiftLeft 1 (shiftLeft (land p31 65535) 3)) 1)) (shiftLeft (land (shiftRight s55 (shiftRight r53 16)) (sub (shiftLeft 1 (shiftLeft (land r53 65535) 3)) 1)) (shiftLeft (land p31 65535) 3))) (lg s55)) (shiftLeft (add (land p31 65535) (land r53 65535)) 3))) fun s58=>
 force (add (shiftLeft v56 16) v57) fun v59=>
 force (add (shiftLeft (shiftRight p32 16) 16) v36) fun v60=>
 L34 p30 v59 v60 m55 t55 s58 d55)<|
 ifB (beq v35 102) (
 join (fun (p61 m62 t62 s62 d62 : Nat)=>
 sf215 p61 1 m62 t62 s62 d62 fun r64 m65 t65 s65 d65=>
 force (lg s65) fun v66=>
 force (add (land p31 65535) (land r64 65535)) fun v67=>
 okB (ifB (ble (succ v67) 65536) (ble (succ v66) 8796093022208) false)<|
 force (add s65 (add (shiftLeft (add (land (shiftRight s65 (shiftRight p31 16)) (sub (shiftLeft 1 (shiftLeft (land p31 65535) 3)) 1)) (shiftLeft (land (shiftRight s65 (shiftRight r64 16)) (sub (shiftLeft 1 (shiftLeft (land r64 65535) 3)) 1)) (shiftLeft (land p31 65535) 3))) (lg s65)) (shiftLeft (add (land p31 65535) (land r64 65535)) 3))) fun s68=>
 force (add (shiftLeft v66 16) v67) fun v69=>
 force (add (shiftLeft (shiftRight p32 16) 16) v36) fun v70=>
 L34 p30 v69 v70 m65 t65 s68 d65) fun J63=>
 force (land (shiftRight p30 448) 18446744073709551615) fun v71=>
 ifB (beq v71 1) (
 J63 1 m33 t33 s33 d33)<|
 J63 0 m33 t33 s33 d33)<|
 ifB (beq v35 98) (
 force (land (land (shiftRight p30 512) 18446744073709551615) 65535) fun v72=>
 sf215 v72 2 m33 t33 s33 d33 fun r73 m74 t74 s74 d74=>
 okB (beq (land (shiftRight p30 512) 18446744073709551615) (land (shiftRight p30 512) 18446744073709551615))<|
 force (lg s74) fun v75=>
 force (add (land r73 65535) (land (land (shiftRight p30 512) 18446744073709551615) 65535)) fun v76=>
 okB (ifB (ble (succ v76) 65536) (ble (succ v75) 8796093022208) false)<|
 force (add s74 (add (shiftLeft (add (land (shiftRight s74 (shiftRight r73 16)) (sub (shiftLeft 1 (shiftLeft (land r73 65535) 3)) 1)) (shiftLeft (land (shiftRight s74 (shiftRight (land (shiftRight p30 512) 18446744073709551615) 16)) (sub (shiftLeft 1 (shiftLeft (land (land (shiftRight p30 512) 18446744073709551615) 65535) 3)) 1)) (shiftLeft (land r73 65535) 3))) (lg s74)) (shiftLeft (add (land r73 65535) (land (land (shiftRight p30 512) 18446744073709551615) 65535)) 3))) fun s77=>
 force (lg s77) fun v78=>
 force (add (land p31 65535) (land (add (shiftLeft v75 16) v76) 65535)) fun v79=>
 okB (ifB (ble (succ v79) 65536) (ble (succ v78) 8796093022208) false)<|
 force (add s77 (add (shiftLeft (add (land (shiftRight s77 (shiftRight p31 16)) (sub (shiftLeft 1 (shiftLeft (land p31 65535) 3)) 1)) (shiftLeft (land (shiftRight s77 (shiftRight (add (shiftLeft v75 16) v76) 16)) (sub (shiftLeft 1 (shiftLeft (land (add (shiftLeft v75 16) v76) 65535) 3)) 1)) (shiftLeft (land p31 65535) 3))) (lg s77)) (shiftLeft (add (land p31 65535) (land (add (shiftLeft v75 16) v76) 65535)) 3))) fun s80=>
 force (add (shiftLeft v78 16) v79) fun v81=>
 force (add (shiftLeft (shiftRight p32 16) 16) v36) fun v82=>
 L34 p30 v81 v82 m74 t74 s80 d74)<|
 ifB (beq v35 114) (
 force (land (shiftRight (land (shiftRight p30 576) 18446744073709551615) 28) 131071) fun v83=>
 sf215 v83 1 m33 t33 s33 d33 fun r84 m85 t85 s85 d85=>
 force (lg s85) fun v86=>
 force (add (land p31 65535) (land r84 65535)) fun v87=>
 okB (ifB (ble (succ v87) 65536) (ble (succ v86) 8796093022208) false)<|
 force (add s85 (add (shiftLeft (add (land (shiftRight s85 (shiftRight p31 16)) (sub (shiftLeft 1 (shiftLeft (land p31 65535) 3)) 1)) (shiftLeft (land (shiftRight s85 (shiftRight r84 16)) (sub (shiftLeft 1 (shiftLeft (land r84 65535) 3)) 1)) (shiftLeft (land p31 65535) 3))) (lg s85)) (shiftLeft (add (land p31 65535) (land r84 65535)) 3))) fun s88=>
 force (add (shiftLeft v86 16) v87) fun v89=>
 force (land (shiftRight p30 576) 18446744073709551615) fun v90=>
 force (land (shiftRight v90 28) 131071) fun v91=>
 force (add (shiftLeft (shiftRight p32 16) 16) v36) fun v110=>
 loopN 6 (fun (_ _ _ _ _ _ _ _ : Nat) => false) (fun L97 (p92 p93 p94 p95 m96 t96 s96 d96 : Nat)=>
 ifB (ble (succ (xor p95 9223372036854775808)) (xor v91 9223372036854775808)) (
 okB (ble (succ p95) (land (shiftRight v90 28) 131071))<|
 okB (beq (land (shiftRight d96 (shiftRight (add (land v90 268435455) (mul p95 320)) 6)) 31) 0)<|
 force (land (shiftRight m96 (add (land v90 268435455) (mul p95 320))) (mask 5)) fun v98=>
 force v98 fun v99=>
 sf218 v99 m96 t96 s96 d96 fun r100 r101 m102 t102 s102 d102=>
 force (lg s102) fun v103=>
 force (add (land p93 65535) (land r100 65535)) fun v104=>
 okB (ifB (ble (succ v104) 65536) (ble (succ v103) 8796093022208) false)<|
 force (add s102 (add (shiftLeft (add (land (shiftRight s102 (shiftRight p93 16)) (sub (shiftLeft 1 (shiftLeft (land p93 65535) 3)) 1)) (shiftLeft (land (shiftRight s102 (shiftRight r100 16)) (sub (shiftLeft 1 (shiftLeft (land r100 65535) 3)) 1)) (shiftLeft (land p93 65535) 3))) (lg s102)) (shiftLeft (add (land p93 65535) (land r100 65535)) 3))) fun s105=>
 force (add (shiftLeft v103 16) v104) fun v106=>
 force (mod (add p95 1) 18446744073709551616) fun v107=>
 force (add (shiftLeft (shiftRight p94 16) 16) (land p94 65535)) fun v108=>
 L97 p92 v106 v108 v107 m102 t102 s105 d102)<|
 force (add (shiftLeft (shiftRight p94 16) 16) (land p94 65535)) fun v109=>
 L34 p92 p93 v109 m96 t96 s96 d96) p30 v89 v110 0 m85 t85 s88 d85)<|
 false)<|
 J28 p31 m33 t33 s33 d33)<|
 ifB false (
 false)<|
 J28 p31 m33 t33 s33 d33) v2 v25 v111 m21 t21 s24 d21
def e145r : FunE := ⟨[.agg (lay 227)], [.one .str, .one .bool], wrapF 1 2 sf145r⟩
def i145r : FI := ⟨120, [1, 13], [1, 2, 3, 4, 6, 8, 9, 11, 13, 14, 18, 19, 40, 41, 42, 44, 45, 53, 60, 62, 71, 74, 79, 91, 101, 102, 103, 104, 107, 118], [(200, e200), (214, e214), (215, e215), (216, e216), (217, e217), (218, e218)], []⟩
def a145r : An := (.sq .reg (.sq (.sq .reg (.cd .dead .skip)) (.sq .reg (.sq (.drw [(0, 0), (1, 0), (2, 0), (4, 0), (5, 0), (6, 0), (9, 0), (10, 0), (11, 0), (3, 1), (7, 1), (8, 0), (12, 1), (13, 0), (14, 0)]) (.sj [(6, .sh (.one .str))] (.sq .reg (.bl (.lp [(1, .loc (lay 227)), (6, .sh (.one .str)), (40, .itr)] 6 (.sq .reg (.sq (.cd .skip .ex) (.bl (.sq .reg (.sq .reg (.bl (.sq .reg (.cd .reg (.sq .reg (.cd .reg (.sq .reg (.cd (.sq .reg .reg) (.sq .reg (.cd (.sq .reg (.sj [(11, .sh (.one (.int .u64)))] (.sq .reg (.cd .reg .skip)) .reg)) (.sq .reg (.cd (.drw [(0, 0), (1, 0), (2, 0), (3, 0), (4, 0), (6, 0), (7, 0), (5, 1), (8, 0), (9, 0), (10, 1)]) (.sq .reg (.cd (.sq .reg (.sq .reg (.bl (.lp [(1, .loc (lay 227)), (6, .sh (.one .str)), (40, .itr), (103, .sh (.one (.int .i64)))] 6 (.sq .reg (.sq (.cd .skip .ex) (.sq (.bl (.sq .reg (.sq .reg .reg))) .reg))))))) .dead))))))))))))))))))))) (.sq (.sq .reg (.cd .dead .skip)) (.sq .reg .ret)))))))
theorem q145r : AllN 1 fun l => ∀ m t s d k, R.denF i145r a145r (bodyOf Tryz.f145) Tryz.f145.results.toList e145r.ps e145r.rs l ⟨m, t, s, d⟩ k = wrapF 1 2 sf145r l ⟨m, t, s, d⟩ k := by
  intro x0 m t s d k
  kernel_rfl
theorem ok145r : FunOK Tryz.prog 145 e145r := fun_ok facts mixed (I := i145r) (FnsOK.cons ok200 (FnsOK.cons ok214 (FnsOK.cons ok215 (FnsOK.cons ok216 (FnsOK.cons ok217 (FnsOK.cons ok218 FnsOK.nil)))))) Tryz.func145 (by kernel_rfl) (by kernel_rfl) (by kernel_rfl) (an := a145r) (by kernel_rfl) (by kernel_rfl) q145r
def sf145 : FT 1 2 := fun a0 m t s d k=>
 sf145r a0 m t s d fun r0 r1 m1 t1 s1 d1=>
 ifB (beq (shiftRight m 64) (shiftRight (land (shiftRight m1 0) (mask t)) 64)) (k r0 r1 m t s1 (mod d1 (pow 2 t)))<|
 k r0 r1 m1 t1 s1 d1
def e145 : FunE := ⟨[.agg (lay 227)], [.one .str, .one .bool], wrapF 1 2 sf145⟩
theorem q145 : AllN 1 fun l => ∀ m t s d k, resetF e145r.rs e145r.f l ⟨m, t, s, d⟩ k = wrapF 1 2 sf145 l ⟨m, t, s, d⟩ k := by
  intro x0 m t s d k
  kernel_rfl
theorem ok145 : FunOK Tryz.prog 145 e145 := FunOK.wrap (FunOK.reset (ps := e145r.ps) (rs := e145r.rs) (F := e145r.f) ok145r) q145
def sf105 : FT 3 0 := fun a1 a2 a3 m t s d k=>
 force a2 fun v4=>
 force a3 fun v5=>
 okB (ifB (beq a1 0) false true)<|
 force (xor v5 (shiftLeft (xor (land (shiftRight v5 64) 18446744073709551615) (land (shiftRight m a1) 18446744073709551615)) 64)) fun v6=>
 force v6 fun v7=>
 sf145 v7 m t s d fun r8 r9 m10 t10 s10 d10=>
 join (fun (r11 m12 t12 s12 d12 : Nat)=>
 okB (ifB (beq r9 1) (beq r9 1) true)<|
 ifB (ifB (beq r9 1) (ifB (beq r11 1) false true) false) (
 okB (ifB (beq a1 0) false true)<|
 force (xor v4 (shiftLeft r8 128)) fun v14=>
 okB (beq (land (shiftRight m12 (add a1 2240)) 18446744073709551615) (land (shiftRight m12 (add a1 2240)) 18446744073709551615))<|
 join (fun (r15 m16 t16 s16 d16 : Nat)=>
 okB (ifB (beq a1 0) false true)<|
 force (xor (land (shiftRight m16 (add a1 2240)) 18446744073709551615) r15) fun v18=>
 force (xor m16 (xor (shiftLeft v18 (add a1 2240)) (mod (add v18 (add a1 2240)) 2305843009213693951))) fun m19=>
 k m19 t16 s16 d16) fun J17=>
 appR 3 (land (shiftRight m12 (add a1 2240)) 18446744073709551615) 1 v14 m12 t12 s12 d12 J17)<|
 false) fun J13=>
 ifB (beq r9 1) (
 force v4 fun v20=>
 sf57 v20 m10 t10 s10 d10 fun r21 m22 t22 s22 d22=>
 J13 r21 m22 t22 s22 d22)<|
 J13 0 m10 t10 s10 d10
def e105 : FunE := ⟨[.ptr (lay 104) false false, .agg (lay 44), .agg (lay 227)], [], wrapF 3 0 sf105⟩
def i105 : FI := ⟨37, [4, 5, 33], [4, 5, 6, 7, 14, 20, 24], [(57, e57), (145, e145)], []⟩
def a105 : An := (.sq .reg (.sq .reg (.sq .reg (.sq .reg (.cd (.drw [(0, 0), (1, 0), (2, 0), (3, 0), (4, 0), (5, 0), (6, 0), (7, 0), (8, 2), (9, 1), (10, 0), (11, 0), (12, 1)]) .dead)))))
theorem q105 : AllN 3 fun l => ∀ m t s d k, R.denF i105 a105 (bodyOf Tryz.f105) Tryz.f105.results.toList e105.ps e105.rs l ⟨m, t, s, d⟩ k = wrapF 3 0 sf105 l ⟨m, t, s, d⟩ k := by
  intro x0 x1 x2 m t s d k
  kernel_rfl
theorem ok105 : FunOK Tryz.prog 105 e105 := fun_ok facts mixed (I := i105) (FnsOK.cons ok57 (FnsOK.cons ok145 FnsOK.nil)) Tryz.func105 (by kernel_rfl) (by kernel_rfl) (by kernel_rfl) (an := a105) (by kernel_rfl) (by kernel_rfl) q105
def sf183 : FT 3 2 := fun a1 a2 a3 m t s d k=>
 sf179 a2 m t s d fun r4 m5 t5 s5 d5=>
 okB (ifB (ifB (ifB (beq r4 1) false true) false true) (ifB (beq a1 0) false true) true)<|
 okB (ifB (ifB (ifB (beq r4 1) false true) false true) (ble (succ a2) 33) true)<|
 okB (ifB (ifB (beq r4 1) false true) true (ifB (ifB (beq r4 1) false true) false true))<|
 okB (ifB (ifB (ifB (ifB (beq r4 1) false true) true (beq (land (shiftRight m5 (add (add a1 128) (mul a2 256))) 18446744073709551615) 0)) false true) (ifB (beq a1 0) false true) true)<|
 okB (ifB (ifB (ifB (ifB (beq r4 1) false true) true (beq (land (shiftRight m5 (add (add a1 128) (mul a2 256))) 18446744073709551615) 0)) false true) (ble (succ a2) 33) true)<|
 okB (ifB (ifB (ifB (beq r4 1) false true) true (beq (land (shiftRight m5 (add (add a1 128) (mul a2 256))) 18446744073709551615) 0)) true (ifB (ifB (ifB (beq r4 1) false true) true (beq (land (shiftRight m5 (add (add a1 128) (mul a2 256))) 18446744073709551615) 0)) false true))<|
 ifB (ifB (ifB (ifB (beq r4 1) false true) true (beq (land (shiftRight m5 (add (add a1 128) (mul a2 256))) 18446744073709551615) 0)) true (ifB (ble (succ a3) (land (shiftRight m5 (add (add (add a1 128) (mul a2 256)) 192)) 18446744073709551615)) false true)) (
 force 0 fun v6=>
 force v6 fun v7=>
 force (ifB false 1 0) fun v8=>
 k v7 v8 m5 t5 s5 d5)<|
 okB (ifB (beq a1 0) false true)<|
 okB (ble (succ a2) 33)<|
 force (land (shiftRight m5 (add (add (add a1 128) (mul a2 256)) 64)) 340282366920938463463374607431768211455) fun v9=>
 force v9 fun v10=>
 force (ifB true 1 0) fun v11=>
 k v10 v11 m5 t5 s5 d5
def e183 : FunE := ⟨[.ptr (lay 188) false false, .one (.int .i64), .one (.int .u64)], [.agg (lay 44), .one .bool], wrapF 3 2 sf183⟩
def i183 : FI := ⟨40, [6], [6, 7, 11, 21, 31], [(179, e179)], []⟩
def a183 : An := (.sq .reg (.sq (.sq .reg (.cd (.sq .reg .ret) .skip)) (.sq .reg .ret)))
theorem q183 : AllN 3 fun l => ∀ m t s d k, R.denF i183 a183 (bodyOf Tryz.f183) Tryz.f183.results.toList e183.ps e183.rs l ⟨m, t, s, d⟩ k = wrapF 3 2 sf183 l ⟨m, t, s, d⟩ k := by
  intro x0 x1 x2 m t s d k
  kernel_rfl
theorem ok183 : FunOK Tryz.prog 183 e183 := fun_ok facts mixed (I := i183) (FnsOK.cons ok179 FnsOK.nil) Tryz.func183 (by kernel_rfl) (by kernel_rfl) (by kernel_rfl) (an := a183) (by kernel_rfl) (by kernel_rfl) q183
def sf130 : FT 3 1 := fun a1 a2 a3 m t s d k=>
 force a3 fun v4=>
 okB (ifB (beq a1 0) false true)<|
 force (xor v4 (shiftLeft (xor (land (shiftRight v4 64) 18446744073709551615) (land (shiftRight m a1) 18446744073709551615)) 64)) fun v5=>
 okB (ifB (beq a1 0) false true)<|
 okB (ifB (beq a1 0) false true)<|
 force (land (shiftRight m (add a1 1728)) 18446744073709551615) fun v6=>
 force (land (shiftRight m (add a1 2304)) 18446744073709551615) fun v7=>
 sf183 v6 a2 v7 m t s d fun r8 r9 m10 t10 s10 d10=>
 okB (beq (land (shiftRight m10 (add a1 2304)) 18446744073709551615) (land (shiftRight m (add a1 2304)) 18446744073709551615))<|
 okB (beq (land (shiftRight m10 (add a1 1728)) 18446744073709551615) (land (shiftRight m (add a1 1728)) 18446744073709551615))<|
 force r8 fun v11=>
 ifB (beq r9 1) (
 force v11 fun v12=>
 force v5 fun v13=>
 sf105 a1 v12 v13 m10 t10 s10 d10 fun m14 t14 s14 d14=>
 force (ifB true 1 0) fun v15=>
 k v15 m14 t14 s14 d14)<|
 okB (ifB (beq a1 0) false true)<|
 force (land (shiftRight m10 (add a1 960)) 18446744073709551615) fun v16=>
 sf14 v16 a2 m10 t10 s10 d10 fun r17 r18 m19 t19 s19 d19=>
 force r17 fun v20=>
 okB (ifB (ifB (ifB (beq r18 1) false true) false true) (ifB (beq a1 0) false true) true)<|
 okB (ifB (ifB (beq r18 1) false true) true (ifB (ifB (beq r18 1) false true) false true))<|
 ifB (ifB (ifB (beq r18 1) false true) true (beq a2 (land (shiftRight m19 a1) 18446744073709551615))) (
 false)<|
 force v5 fun v21=>
 sf145 v21 m19 t19 s19 d19 fun r22 r23 m24 t24 s24 d24=>
 ifB (beq r23 1) (
 force (land (shiftRight v20 192) 340282366920938463463374607431768211455) fun v25=>
 force (xor (xor 5 (shiftLeft a2 192)) (shiftLeft r22 512)) fun v26=>
 sf105 a1 v25 v26 m24 t24 s24 d24 fun m27 t27 s27 d27=>
 force (ifB true 1 0) fun v28=>
 k v28 m27 t27 s27 d27)<|
 false
def e130 : FunE := ⟨[.ptr (lay 104) false false, .one (.int .i64), .agg (lay 227)], [.one .bool], wrapF 3 1 sf130⟩
def i130 : FI := ⟨70, [5, 7, 9], [5, 6, 7, 8, 9, 10, 11, 12, 19, 32, 37, 48, 56, 57, 62], [(14, e14), (105, e105), (145, e145), (183, e183)], []⟩
def a130 : An := (.sq .reg (.sq .reg (.sq (.sq (.drw [(0, 0), (1, 0), (2, 0), (3, 0), (4, 0), (5, 0), (6, 0), (7, 0), (8, 0), (9, 1), (10, 0), (11, 0), (12, 0), (13, 2), (14, 1), (15, 0)]) (.sq .reg (.cd (.sq .reg (.sq .reg .ret)) .skip))) (.sq .reg (.sq (.sq .reg (.cd .dead .skip)) (.sq (.sq .reg (.sq .reg (.cd .reg .dead))) (.sq .reg .ret)))))))
theorem q130 : AllN 3 fun l => ∀ m t s d k, R.denF i130 a130 (bodyOf Tryz.f130) Tryz.f130.results.toList e130.ps e130.rs l ⟨m, t, s, d⟩ k = wrapF 3 1 sf130 l ⟨m, t, s, d⟩ k := by
  intro x0 x1 x2 m t s d k
  kernel_rfl
theorem ok130 : FunOK Tryz.prog 130 e130 := fun_ok facts mixed (I := i130) (FnsOK.cons ok14 (FnsOK.cons ok105 (FnsOK.cons ok145 (FnsOK.cons ok183 FnsOK.nil)))) Tryz.func130 (by kernel_rfl) (by kernel_rfl) (by kernel_rfl) (an := a130) (by kernel_rfl) (by kernel_rfl) q130
def sf108 : FT 3 1 := fun a1 a2 a3 m t s d k=>
 force a3 fun v4=>
 okB (ifB (beq a1 0) false true)<|
 force (land (shiftRight m (add a1 1856)) 18446744073709551615) fun v5=>
 sf132 v5 a2 m t s d fun r6 r7 m8 t8 s8 d8=>
 force r6 fun v9=>
 okB (ifB (beq r7 1) (beq r7 1) true)<|
 ifB (ifB (beq r7 1) (beq (land (shiftRight v9 64) 18446744073709551615) 3) false) (
 force (land (shiftRight v9 192) 340282366920938463463374607431768211455) fun v10=>
 force v4 fun v11=>
 sf105 a1 v10 v11 m8 t8 s8 d8 fun m12 t12 s12 d12=>
 force (ifB true 1 0) fun v13=>
 k v13 m12 t12 s12 d12)<|
 force v4 fun v14=>
 sf130 a1 a2 v14 m8 t8 s8 d8 fun r15 m16 t16 s16 d16=>
 k r15 m16 t16 s16 d16
def e108 : FunE := ⟨[.ptr (lay 104) false false, .one (.int .i64), .agg (lay 227)], [.one .bool], wrapF 3 1 sf108⟩
def i108 : FI := ⟨33, [5, 7], [5, 6, 7, 8, 9, 19, 23], [(105, e105), (130, e130), (132, e132)], []⟩
def a108 : An := (.sq .reg (.sq (.sq .reg (.sq .reg (.cd (.sq .reg (.sq .reg .ret)) .skip))) (.sq .reg .ret)))
theorem q108 : AllN 3 fun l => ∀ m t s d k, R.denF i108 a108 (bodyOf Tryz.f108) Tryz.f108.results.toList e108.ps e108.rs l ⟨m, t, s, d⟩ k = wrapF 3 1 sf108 l ⟨m, t, s, d⟩ k := by
  intro x0 x1 x2 m t s d k
  kernel_rfl
theorem ok108 : FunOK Tryz.prog 108 e108 := fun_ok facts mixed (I := i108) (FnsOK.cons ok105 (FnsOK.cons ok130 (FnsOK.cons ok132 FnsOK.nil))) Tryz.func108 (by kernel_rfl) (by kernel_rfl) (by kernel_rfl) (an := a108) (by kernel_rfl) (by kernel_rfl) q108
def sf244 : FT 1 1 := fun a1 m t s d k=>
 force a1 fun v2=>
 force (ifB (ble (succ (xor (land (shiftRight v2 320) 18446744073709551615) 9223372036854775808)) 9223372036854775809) 1 0) fun v3=>
 k v3 m t s d
def e244 : FunE := ⟨[.agg (lay 368)], [.one .bool], wrapF 1 1 sf244⟩
def i244 : FI := ⟨6, [1], [1, 2], [], []⟩
def a244 : An := (.sq .reg (.sq .reg .ret))
theorem q244 : AllN 1 fun l => ∀ m t s d k, R.denF i244 a244 (bodyOf Tryz.f244) Tryz.f244.results.toList e244.ps e244.rs l ⟨m, t, s, d⟩ k = wrapF 1 1 sf244 l ⟨m, t, s, d⟩ k := by
  intro x0 m t s d k
  kernel_rfl
theorem ok244 : FunOK Tryz.prog 244 e244 := fun_ok facts mixed (I := i244) FnsOK.nil Tryz.func244 (by kernel_rfl) (by kernel_rfl) (by kernel_rfl) (an := a244) (by kernel_rfl) (by kernel_rfl) q244
def sf290 : FT 2 1 := fun a1 a2 m t s d k=>
 join (fun (m3 t3 s3 d3 : Nat)=>
 k 18446744073709551615 m3 t3 s3 d3) fun J4=>
 force (land (shiftRight a1 28) 131071) fun v5=>
 loopN 5 (fun (_ _ _ _ _ : Nat) => false) (fun L8 (p6 m7 t7 s7 d7 : Nat)=>
 ifB (ble (succ (xor p6 9223372036854775808)) (xor v5 9223372036854775808)) (
 okB (ble (succ p6) (land (shiftRight a1 28) 131071))<|
 okB (beq (land (shiftRight d7 (shiftRight (add (land a1 268435455) (mul p6 384)) 6)) 63) 0)<|
 ifB (beq (land a2 1023) 245) (
 force (land (shiftRight m7 (add (land a1 268435455) (mul p6 384))) (mask 6)) fun v9=>
 sf244 v9 m7 t7 s7 d7 fun r10 m11 t11 s11 d11=>
 ifB (beq r10 1) (
 k p6 m11 t11 s11 d11)<|
 force (mod (add p6 1) 18446744073709551616) fun v12=>
 L8 v12 m11 t11 s11 d11)<|
 false)<|
 J4 m7 t7 s7 d7) 0 m t s d
def e290 : FunE := ⟨[.sli (lay 368), .one .fn], [.one (.int .i64)], wrapF 2 1 sf290⟩
def i290 : FI := ⟨19, [], [4, 5, 7, 8, 9, 16], [(244, e244)], [(16, [244])]⟩
def a290 : An := (.sq .reg (.sj [] (.sq .reg (.bl (.lp [(8, .sh (.one (.int .i64)))] 5 (.sq .reg (.sq (.cd .skip .ex) (.sq (.bl (.sq .reg (.sq .reg (.cd (.sq .reg .ret) .skip)))) .reg)))))) (.sq .reg .ret)))
theorem q290 : AllN 2 fun l => ∀ m t s d k, R.denF i290 a290 (bodyOf Tryz.f290) Tryz.f290.results.toList e290.ps e290.rs l ⟨m, t, s, d⟩ k = wrapF 2 1 sf290 l ⟨m, t, s, d⟩ k := by
  intro x0 x1 m t s d k
  kernel_rfl
theorem ok290 : FunOK Tryz.prog 290 e290 := fun_ok facts mixed (I := i290) (FnsOK.cons ok244 FnsOK.nil) Tryz.func290 (by kernel_rfl) (by kernel_rfl) (by kernel_rfl) (an := a290) (by kernel_rfl) (by kernel_rfl) q290
def sf243 : FT 2 1 := fun a1 a2 m t s d k=>
 sf290 a1 a2 m t s d fun r3 m4 t4 s4 d4=>
 ifB (beq r3 18446744073709551615) (
 k a1 m4 t4 s4 d4)<|
 join (fun (p5 m6 t6 s6 d6 : Nat)=>
 okB (ifB (ble p5 (land (shiftRight a1 28) 131071)) (ble (land (shiftRight a1 28) 131071) (land (shiftRight a1 45) 131071)) false)<|
 join (fun (m8 t8 s8 d8 : Nat)=>
 okB (ifB (ble 0 p5) (ble p5 (land (shiftRight a1 45) 131071)) false)<|
 force (ifB (beq (land a1 268435455) 0) a1 (ifB (beq (add (sub (land (shiftRight a1 45) 131071) 0) (shiftRight a1 62)) 0) 9223372036854775808 (add (land a1 268435455) (shiftLeft (add (sub p5 0) (shiftLeft (add (sub (land (shiftRight a1 45) 131071) 0) (shiftLeft (shiftRight a1 62) 17)) 17)) 28)))) fun v10=>
 k v10 m8 t8 s8 d8) fun J9=>
 clrR (ifB (beq (land a1 268435455) 0) a1 (ifB (beq (add (sub (land (shiftRight a1 45) 131071) p5) (shiftRight a1 62)) 0) 9223372036854775808 (add (add (land a1 268435455) (mul p5 384)) (shiftLeft (add (sub (land (shiftRight a1 28) 131071) p5) (shiftLeft (add (sub (land (shiftRight a1 45) 131071) p5) (shiftLeft (shiftRight a1 62) 17)) 17)) 28)))) 6 m6 t6 s6 d6 J9) fun J7=>
 force (mod (add r3 1) 18446744073709551616) fun v11=>
 loopN 4 (fun (_ _ _ _ _ _ : Nat) => false) (fun L15 (p12 p13 m14 t14 s14 d14 : Nat)=>
 ifB (ble (succ (xor p13 9223372036854775808)) (xor (land (shiftRight a1 28) 131071) 9223372036854775808)) (
 false)<|
 J7 p12 m14 t14 s14 d14) r3 v11 m4 t4 s4 d4
def e243 : FunE := ⟨[.sli (lay 368), .one .fn], [.sli (lay 368)], wrapF 2 1 sf243⟩
def i243 : FI := ⟨42, [7], [4, 5, 6, 7, 12, 19, 29], [(290, e290)], []⟩
def a243 : An := (.sq .reg (.sq .reg (.sq (.sq .reg (.cd (.sq .reg .ret) .skip)) (.sj [(5, .sh (.one (.int .i64)))] (.sq .reg (.bl (.lp [(5, .sh (.one (.int .i64))), (6, .sh (.one (.int .i64)))] 4 (.sq (.sq .reg (.cd .dead .ex)) .dead)))) (.sq .reg (.sq .reg .ret))))))
theorem q243 : AllN 2 fun l => ∀ m t s d k, R.denF i243 a243 (bodyOf Tryz.f243) Tryz.f243.results.toList e243.ps e243.rs l ⟨m, t, s, d⟩ k = wrapF 2 1 sf243 l ⟨m, t, s, d⟩ k := by
  intro x0 x1 m t s d k
  kernel_rfl
theorem ok243 : FunOK Tryz.prog 243 e243 := fun_ok facts mixed (I := i243) (FnsOK.cons ok290 FnsOK.nil) Tryz.func243 (by kernel_rfl) (by kernel_rfl) (by kernel_rfl) (an := a243) (by kernel_rfl) (by kernel_rfl) q243
def sf172 : FT 2 1 := fun a1 a2 m t s d k=>
 sf242 a1 m t s d fun r3 m4 t4 s4 d4=>
 okB (ifB (beq a1 0) false true)<|
 force (xor (land (shiftRight m4 a1) 18446744073709551615) r3) fun v5=>
 force (xor m4 (xor (shiftLeft v5 a1) (mod (add v5 a1) 2305843009213693951))) fun m6=>
 join (fun (p7 m8 t8 s8 d8 : Nat)=>
 okB (ifB (beq a1 0) false true)<|
 force (land (shiftRight m8 a1) 18446744073709551615) fun v10=>
 sf243 v10 245 m8 t8 s8 d8 fun r11 m12 t12 s12 d12=>
 okB (ifB (beq a1 0) false true)<|
 force (xor (land (shiftRight m12 a1) 18446744073709551615) r11) fun v13=>
 force (xor m12 (xor (shiftLeft v13 a1) (mod (add v13 a1) 2305843009213693951))) fun m14=>
 k p7 m14 t12 s12 d12) fun J9=>
 okB (ifB (beq a1 0) false true)<|
 force (ifB (ble (succ (xor (ifB (ble (succ (xor a2 9223372036854775808)) (xor (land (shiftRight (land (shiftRight m6 a1) 18446744073709551615) 28) 131071) 9223372036854775808)) a2 (land (shiftRight (land (shiftRight m6 a1) 18446744073709551615) 28) 131071)) 9223372036854775808)) 9223372036854775808) 0 (ifB (ble (succ (xor a2 9223372036854775808)) (xor (land (shiftRight (land (shiftRight m6 a1) 18446744073709551615) 28) 131071) 9223372036854775808)) a2 (land (shiftRight (land (shiftRight m6 a1) 18446744073709551615) 28) 131071))) fun v15=>
 loopN 5 (fun (_ _ _ _ _ _ : Nat) => false) (fun L19 (p16 p17 m18 t18 s18 d18 : Nat)=>
 ifB (ble (succ (xor p17 9223372036854775808)) (xor v15 9223372036854775808)) (
 okB (ifB (beq a1 0) false true)<|
 force (land (shiftRight m18 a1) 18446744073709551615) fun v20=>
 okB (ble (succ p17) (land (shiftRight v20 28) 131071))<|
 okB (beq (land (shiftRight d18 (shiftRight (add (add (land v20 268435455) (mul p17 384)) 320) 6)) 1) 0)<|
 okB (ble (succ p17) (land (shiftRight v20 28) 131071))<|
 okB (beq (land (shiftRight d18 (shiftRight (add (add (land v20 268435455) (mul p17 384)) 320) 6)) 1) 0)<|
 force (xor (land (shiftRight m18 (add (add (land v20 268435455) (mul p17 384)) 320)) 18446744073709551615) (mod (sub (add (land (shiftRight m18 (add (add (land v20 268435455) (mul p17 384)) 320)) 18446744073709551615) 18446744073709551616) 1) 18446744073709551616)) fun v21=>
 force (xor m18 (xor (shiftLeft v21 (add (add (land v20 268435455) (mul p17 384)) 320)) (mod (add v21 (add (add (land v20 268435455) (mul p17 384)) 320)) 2305843009213693951))) fun m22=>
 okB (ifB (beq a1 0) false true)<|
 okB (ble (succ p17) (land (shiftRight (land (shiftRight m22 a1) 18446744073709551615) 28) 131071))<|
 okB (beq (land (shiftRight d18 (shiftRight (add (land (land (shiftRight m22 a1) 18446744073709551615) 268435455) (mul p17 384)) 6)) 31) 0)<|
 force (land (shiftRight m22 (add (land (land (shiftRight m22 a1) 18446744073709551615) 268435455) (mul p17 384))) (mask 5)) fun v23=>
 join (fun (r24 m25 t25 s25 d25 : Nat)=>
 force (mod (add p17 1) 18446744073709551616) fun v27=>
 L19 r24 v27 m25 t25 s25 d25) fun J26=>
 appR 5 p16 1 v23 m22 t18 s18 d18 J26)<|
 J9 p16 m18 t18 s18 d18) 0 0 m6 t4 s4 d4
def e172 : FunE := ⟨[.ptr (lay 177) false false, .one (.int .i64)], [.sli (lay 53)], wrapF 2 1 sf172⟩
def i172 : FI := ⟨55, [43], [4, 5, 6, 19, 20, 21, 26, 27], [(242, e242), (243, e243)], []⟩
def a172 : An := (.sq .reg (.sq .reg (.sq .reg (.sj [(5, .sh (.sli (lay 53)))] (.sq .reg (.bl (.lp [(5, .sh (.sli (lay 53))), (20, .sh (.one (.int .i64)))] 5 (.sq .reg (.sq (.cd .skip .ex) (.sq (.bl (.sq .reg (.sq .reg .reg))) .reg)))))) (.sq .reg (.sq .reg .ret))))))
theorem q172 : AllN 2 fun l => ∀ m t s d k, R.denF i172 a172 (bodyOf Tryz.f172) Tryz.f172.results.toList e172.ps e172.rs l ⟨m, t, s, d⟩ k = wrapF 2 1 sf172 l ⟨m, t, s, d⟩ k := by
  intro x0 x1 m t s d k
  kernel_rfl
theorem ok172 : FunOK Tryz.prog 172 e172 := fun_ok facts mixed (I := i172) (FnsOK.cons ok242 (FnsOK.cons ok243 FnsOK.nil)) Tryz.func172 (by kernel_rfl) (by kernel_rfl) (by kernel_rfl) (an := a172) (by kernel_rfl) (by kernel_rfl) q172
def sf118 : FT 1 1 := fun a1 m t s d k=>
 okB (ifB (beq a1 0) false true)<|
 force (land (shiftRight m (add a1 1024)) 18446744073709551615) fun v2=>
 sf172 v2 8 m t s d fun r3 m4 t4 s4 d4=>
 k r3 m4 t4 s4 d4
def e118 : FunE := ⟨[.ptr (lay 104) false false], [.sli (lay 53)], wrapF 1 1 sf118⟩
def i118 : FI := ⟨8, [], [2], [(172, e172)], []⟩
def a118 : An := (.sq .reg (.sq .reg .ret))
theorem q118 : AllN 1 fun l => ∀ m t s d k, R.denF i118 a118 (bodyOf Tryz.f118) Tryz.f118.results.toList e118.ps e118.rs l ⟨m, t, s, d⟩ k = wrapF 1 1 sf118 l ⟨m, t, s, d⟩ k := by
  intro x0 m t s d k
  kernel_rfl
theorem ok118 : FunOK Tryz.prog 118 e118 := fun_ok facts mixed (I := i118) (FnsOK.cons ok172 FnsOK.nil) Tryz.func118 (by kernel_rfl) (by kernel_rfl) (by kernel_rfl) (an := a118) (by kernel_rfl) (by kernel_rfl) q118
def sf173 : FT 1 1 := fun a1 m t s d k=>
 ifB (beq a1 0) (
 false)<|
 okB (beq (land (shiftRight d (shiftRight (land a1 268435455) 6)) (sub (shiftLeft 1 (mul (land (shiftRight a1 28) 131071) 1)) 1)) 0)<|
 join (fun (r2 m3 t3 s3 d3 : Nat)=>
 k r2 m3 t3 s3 d3) fun J4=>
 appR 1 (add (shiftLeft t 6) 4611686018427387904) (land (shiftRight a1 28) 131071) (land (shiftRight m (land a1 268435455)) (mask (mul (land (shiftRight a1 28) 131071) 1))) m t s d J4
def e173 : FunE := ⟨[.sli [.bool]], [.sli [.bool]], wrapF 1 1 sf173⟩
def i173 : FI := ⟨8, [], [2, 4], [], []⟩
def a173 : An := (.sq .reg (.sq (.sq .reg (.cd .dead .skip)) (.sq .reg .ret)))
theorem q173 : AllN 1 fun l => ∀ m t s d k, R.denF i173 a173 (bodyOf Tryz.f173) Tryz.f173.results.toList e173.ps e173.rs l ⟨m, t, s, d⟩ k = wrapF 1 1 sf173 l ⟨m, t, s, d⟩ k := by
  intro x0 m t s d k
  kernel_rfl
theorem ok173 : FunOK Tryz.prog 173 e173 := fun_ok facts mixed (I := i173) FnsOK.nil Tryz.func173 (by kernel_rfl) (by kernel_rfl) (by kernel_rfl) (an := a173) (by kernel_rfl) (by kernel_rfl) q173
def sf119 : FT 1 1 := fun a1 m t s d k=>
 okB (ifB (beq a1 0) false true)<|
 ifB (ifB (beq (land (shiftRight m (add a1 8640)) 18446744073709551615) 1) false true) (
 force (ifB false 1 0) fun v2=>
 k v2 m t s d)<|
 okB (ifB (beq a1 0) false true)<|
 force (xor (land (shiftRight m (add a1 8640)) 18446744073709551615) (ifB false 1 0)) fun v3=>
 force (xor m (xor (shiftLeft v3 (add a1 8640)) (mod (add v3 (add a1 8640)) 2305843009213693951))) fun m4=>
 okB (ifB (beq a1 0) false true)<|
 okB (ifB (beq a1 0) false true)<|
 force (land (shiftRight m4 (add a1 8768)) 18446744073709551615) fun v5=>
 okB (beq (land (shiftRight m4 (add a1 8576)) 18446744073709551615) (land (shiftRight m4 (add a1 8576)) 18446744073709551615))<|
 join (fun (r6 m7 t7 s7 d7 : Nat)=>
 okB (ifB (beq a1 0) false true)<|
 force (xor (land (shiftRight m7 (add a1 8576)) 18446744073709551615) r6) fun v9=>
 force (xor m7 (xor (shiftLeft v9 (add a1 8576)) (mod (add v9 (add a1 8576)) 2305843009213693951))) fun m10=>
 okB (ifB (beq a1 0) false true)<|
 okB (ifB (beq a1 0) false true)<|
 okB (ifB (beq a1 0) false true)<|
 okB (ifB (ble (ifB (ble (succ (xor (mod (sub (add (land (shiftRight (land (shiftRight m10 (add a1 8576)) 18446744073709551615) 28) 131071) 18446744073709551616) (land (shiftRight m10 a1) 18446744073709551615)) 18446744073709551616) 9223372036854775808)) 9223372036854775808) 0 (mod (sub (add (land (shiftRight (land (shiftRight m10 (add a1 8576)) 18446744073709551615) 28) 131071) 18446744073709551616) (land (shiftRight m10 a1) 18446744073709551615)) 18446744073709551616)) (land (shiftRight (land (shiftRight m10 (add a1 8576)) 18446744073709551615) 28) 131071)) (ble (land (shiftRight (land (shiftRight m10 (add a1 8576)) 18446744073709551615) 28) 131071) (land (shiftRight (land (shiftRight m10 (add a1 8576)) 18446744073709551615) 45) 131071)) false)<|
 force (ifB (beq (land (land (shiftRight m10 (add a1 8576)) 18446744073709551615) 268435455) 0) (land (shiftRight m10 (add a1 8576)) 18446744073709551615) (ifB (beq (add (sub (land (shiftRight (land (shiftRight m10 (add a1 8576)) 18446744073709551615) 45) 131071) (ifB (ble (succ (xor (mod (sub (add (land (shiftRight (land (shiftRight m10 (add a1 8576)) 18446744073709551615) 28) 131071) 18446744073709551616) (land (shiftRight m10 a1) 18446744073709551615)) 18446744073709551616) 9223372036854775808)) 9223372036854775808) 0 (mod (sub (add (land (shiftRight (land (shiftRight m10 (add a1 8576)) 18446744073709551615) 28) 131071) 18446744073709551616) (land (shiftRight m10 a1) 18446744073709551615)) 18446744073709551616))) (shiftRight (land (shiftRight m10 (add a1 8576)) 18446744073709551615) 62)) 0) 9223372036854775808 (add (add (land (land (shiftRight m10 (add a1 8576)) 18446744073709551615) 268435455) (mul (ifB (ble (succ (xor (mod (sub (add (land (shiftRight (land (shiftRight m10 (add a1 8576)) 18446744073709551615) 28) 131071) 18446744073709551616) (land (shiftRight m10 a1) 18446744073709551615)) 18446744073709551616) 9223372036854775808)) 9223372036854775808) 0 (mod (sub (add (land (shiftRight (land (shiftRight m10 (add a1 8576)) 18446744073709551615) 28) 131071) 18446744073709551616) (land (shiftRight m10 a1) 18446744073709551615)) 18446744073709551616)) 64)) (shiftLeft (add (sub (land (shiftRight (land (shiftRight m10 (add a1 8576)) 18446744073709551615) 28) 131071) (ifB (ble (succ (xor (mod (sub (add (land (shiftRight (land (shiftRight m10 (add a1 8576)) 18446744073709551615) 28) 131071) 18446744073709551616) (land (shiftRight m10 a1) 18446744073709551615)) 18446744073709551616) 9223372036854775808)) 9223372036854775808) 0 (mod (sub (add (land (shiftRight (land (shiftRight m10 (add a1 8576)) 18446744073709551615) 28) 131071) 18446744073709551616) (land (shiftRight m10 a1) 18446744073709551615)) 18446744073709551616))) (shiftLeft (add (sub (land (shiftRight (land (shiftRight m10 (add a1 8576)) 18446744073709551615) 45) 131071) (ifB (ble (succ (xor (mod (sub (add (land (shiftRight (land (shiftRight m10 (add a1 8576)) 18446744073709551615) 28) 131071) 18446744073709551616) (land (shiftRight m10 a1) 18446744073709551615)) 18446744073709551616) 9223372036854775808)) 9223372036854775808) 0 (mod (sub (add (land (shiftRight (land (shiftRight m10 (add a1 8576)) 18446744073709551615) 28) 131071) 18446744073709551616) (land (shiftRight m10 a1) 18446744073709551615)) 18446744073709551616))) (shiftLeft (shiftRight (land (shiftRight m10 (add a1 8576)) 18446744073709551615) 62) 17)) 17)) 28)))) fun v11=>
 sf173 v11 m10 t7 s7 d7 fun r12 m13 t13 s13 d13=>
 okB (ifB (beq a1 0) false true)<|
 force (xor (land (shiftRight m13 (add a1 8576)) 18446744073709551615) r12) fun v14=>
 force (xor m13 (xor (shiftLeft v14 (add a1 8576)) (mod (add v14 (add a1 8576)) 2305843009213693951))) fun m15=>
 force (ifB true 1 0) fun v16=>
 k v16 m15 t13 s13 d13) fun J8=>
 appR 1 (land (shiftRight m4 (add a1 8576)) 18446744073709551615) 1 v5 m4 t s d J8
def e119 : FunE := ⟨[.ptr (lay 183) false false], [.one .bool], wrapF 1 1 sf119⟩
def i119 : FI := ⟨44, [20], [2, 7], [(173, e173)], []⟩
def a119 : An := (.sq .reg (.sq (.sq .reg (.cd (.sq .reg .ret) .skip)) (.sq .reg (.sq (.drw [(0, 0), (1, 0), (2, 0), (3, 0), (4, 0), (5, 0), (6, 0), (7, 0), (8, 0), (9, 2), (10, 1), (11, 0), (12, 0), (13, 1)]) (.sq (.drw [(0, 0), (1, 0), (2, 0), (3, 0), (4, 0), (5, 0), (6, 0), (7, 0), (8, 0), (9, 0), (10, 0), (11, 0), (12, 0), (13, 0), (14, 0), (15, 0), (16, 0), (17, 1), (18, 0), (19, 0), (20, 1)]) (.sq .reg .ret))))))
theorem q119 : AllN 1 fun l => ∀ m t s d k, R.denF i119 a119 (bodyOf Tryz.f119) Tryz.f119.results.toList e119.ps e119.rs l ⟨m, t, s, d⟩ k = wrapF 1 1 sf119 l ⟨m, t, s, d⟩ k := by
  intro x0 m t s d k
  kernel_rfl
theorem ok119 : FunOK Tryz.prog 119 e119 := fun_ok facts mixed (I := i119) (FnsOK.cons ok173 FnsOK.nil) Tryz.func119 (by kernel_rfl) (by kernel_rfl) (by kernel_rfl) (an := a119) (by kernel_rfl) (by kernel_rfl) q119
def sf120 : FT 3 1 := fun a1 a2 a3 m t s d k=>
 ifB (ble 4611686018427387905 a3) (
 false)<|
 okB (ifB (beq a1 0) false true)<|
 force (land (shiftRight m (add a1 8640)) 18446744073709551615) fun v4=>
 ifB (beq v4 1) (
 false)<|
 okB (ifB (beq a1 0) false true)<|
 force (xor (land (shiftRight m (add a1 8640)) 18446744073709551615) (ifB true 1 0)) fun v5=>
 force (xor m (xor (shiftLeft v5 (add a1 8640)) (mod (add v5 (add a1 8640)) 2305843009213693951))) fun m6=>
 okB (ifB (beq a1 0) false true)<|
 force (xor (land (shiftRight m6 (add a1 8704)) 18446744073709551615) a2) fun v7=>
 force (xor m6 (xor (shiftLeft v7 (add a1 8704)) (mod (add v7 (add a1 8704)) 2305843009213693951))) fun m8=>
 okB (ifB (beq a1 0) false true)<|
 force (xor (land (shiftRight m8 (add a1 8768)) 18446744073709551615) (ifB false 1 0)) fun v9=>
 force (xor m8 (xor (shiftLeft v9 (add a1 8768)) (mod (add v9 (add a1 8768)) 2305843009213693951))) fun m10=>
 k 0 m10 t s d
def e120 : FunE := ⟨[.ptr (lay 183) false false, .one (.int .u32), .one (.int .u64)], [.one (.int .i64)], wrapF 3 1 sf120⟩
def i120 : FI := ⟨25, [], [6, 7, 10], [], []⟩
def a120 : An := (.sq .reg (.sq (.bl (.sq .reg (.cd .dead (.sq .reg (.cd .dead .skip))))) (.sq .reg (.sq .reg .ret))))
theorem q120 : AllN 3 fun l => ∀ m t s d k, R.denF i120 a120 (bodyOf Tryz.f120) Tryz.f120.results.toList e120.ps e120.rs l ⟨m, t, s, d⟩ k = wrapF 3 1 sf120 l ⟨m, t, s, d⟩ k := by
  intro x0 x1 x2 m t s d k
  kernel_rfl
theorem ok120 : FunOK Tryz.prog 120 e120 := fun_ok facts mixed (I := i120) FnsOK.nil Tryz.func120 (by kernel_rfl) (by kernel_rfl) (by kernel_rfl) (an := a120) (by kernel_rfl) (by kernel_rfl) q120
def sf175 : FT 2 1 := fun a1 a2 m t s d k=>
 force a1 fun v3=>
 force (ifB (beq (land (shiftRight v3 0) 18446744073709551615) (land (shiftRight m a2) 18446744073709551615)) 1 0) fun v4=>
 k v4 m t s d
def e175 : FunE := ⟨[.agg (lay 114), .ptr ([.int .i64]) false true], [.one .bool], wrapF 2 1 sf175⟩
def i175 : FI := ⟨8, [2], [2, 3], [], []⟩
def a175 : An := (.sq .reg (.sq .reg .ret))
theorem q175 : AllN 2 fun l => ∀ m t s d k, R.denF i175 a175 (bodyOf Tryz.f175) Tryz.f175.results.toList e175.ps e175.rs l ⟨m, t, s, d⟩ k = wrapF 2 1 sf175 l ⟨m, t, s, d⟩ k := by
  intro x0 x1 m t s d k
  kernel_rfl
theorem ok175 : FunOK Tryz.prog 175 e175 := fun_ok facts mixed (I := i175) FnsOK.nil Tryz.func175 (by kernel_rfl) (by kernel_rfl) (by kernel_rfl) (an := a175) (by kernel_rfl) (by kernel_rfl) q175
def sf174 : FT 2 1 := fun a1 a2 m t s d k=>
 join (fun (m3 t3 s3 d3 : Nat)=>
 k 18446744073709551615 m3 t3 s3 d3) fun J4=>
 force (land (shiftRight a1 28) 131071) fun v5=>
 loopN 5 (fun (_ _ _ _ _ : Nat) => false) (fun L8 (p6 m7 t7 s7 d7 : Nat)=>
 ifB (ble (succ (xor p6 9223372036854775808)) (xor v5 9223372036854775808)) (
 okB (ble (succ p6) (land (shiftRight a1 28) 131071))<|
 okB (beq (land (shiftRight d7 (shiftRight (add (land a1 268435455) (mul p6 256)) 6)) 15) 0)<|
 ifB (beq (land a2 1023) 176) (
 force (land (shiftRight m7 (add (land a1 268435455) (mul p6 256))) (mask 4)) fun v9=>
 force (shiftLeft (land (shiftRight a2 10) 4194303) 6) fun v10=>
 sf175 v9 v10 m7 t7 s7 d7 fun r11 m12 t12 s12 d12=>
 ifB (beq r11 1) (
 k p6 m12 t12 s12 d12)<|
 force (mod (add p6 1) 18446744073709551616) fun v13=>
 L8 v13 m12 t12 s12 d12)<|
 false)<|
 J4 m7 t7 s7 d7) 0 m t s d
def e174 : FunE := ⟨[.sli (lay 114), .one .fn], [.one (.int .i64)], wrapF 2 1 sf174⟩
def i174 : FI := ⟨19, [], [4, 5, 7, 8, 9, 16], [(175, e175)], [(16, [175])]⟩
def a174 : An := (.sq .reg (.sj [] (.sq .reg (.bl (.lp [(8, .sh (.one (.int .i64)))] 5 (.sq .reg (.sq (.cd .skip .ex) (.sq (.bl (.sq .reg (.sq .reg (.cd (.sq .reg .ret) .skip)))) .reg)))))) (.sq .reg .ret)))
theorem q174 : AllN 2 fun l => ∀ m t s d k, R.denF i174 a174 (bodyOf Tryz.f174) Tryz.f174.results.toList e174.ps e174.rs l ⟨m, t, s, d⟩ k = wrapF 2 1 sf174 l ⟨m, t, s, d⟩ k := by
  intro x0 x1 m t s d k
  kernel_rfl
theorem ok174 : FunOK Tryz.prog 174 e174 := fun_ok facts mixed (I := i174) (FnsOK.cons ok175 FnsOK.nil) Tryz.func174 (by kernel_rfl) (by kernel_rfl) (by kernel_rfl) (an := a174) (by kernel_rfl) (by kernel_rfl) q174
def sf121 : FT 2 2 := fun a1 a2 m t s d k=>
 force (shiftLeft t 6) fun v3=>
 force (add t 1) fun t4=>
 okB (ble (succ t4) 4194304)<|
 force (xor m (xor (shiftLeft a2 (shiftLeft t 6)) (mod (add a2 t) 2305843009213693951))) fun m5=>
 okB (ifB (beq a1 0) false true)<|
 okB (ifB (beq v3 0) false (ble (succ v3) 268435456))<|
 force (land (shiftRight m5 (add a1 384)) 18446744073709551615) fun v6=>
 force (add 176 (shiftLeft (shiftRight v3 6) 10)) fun v7=>
 sf174 v6 v7 m5 t4 s d fun r8 m9 t9 s9 d9=>
 ifB (ble (succ (xor r8 9223372036854775808)) 9223372036854775808) (
 force 0 fun v10=>
 force v10 fun v11=>
 force (ifB false 1 0) fun v12=>
 k v11 v12 m9 t9 s9 d9)<|
 okB (ifB (beq a1 0) false true)<|
 okB (ble (succ r8) (land (shiftRight (land (shiftRight m9 (add a1 384)) 18446744073709551615) 28) 131071))<|
 okB (beq (land (shiftRight d9 (shiftRight (add (land (land (shiftRight m9 (add a1 384)) 18446744073709551615) 268435455) (mul r8 256)) 6)) 15) 0)<|
 force (land (shiftRight m9 (add (land (land (shiftRight m9 (add a1 384)) 18446744073709551615) 268435455) (mul r8 256))) (mask 4)) fun v13=>
 force v13 fun v14=>
 force (ifB true 1 0) fun v15=>
 k v14 v15 m9 t9 s9 d9
def e121 : FunE := ⟨[.ptr (lay 104) false false, .one (.int .i64)], [.agg (lay 114), .one .bool], wrapF 2 2 sf121⟩
def i121 : FI := ⟨25, [4], [3, 4, 5, 6, 15], [(174, e174)], []⟩
def a121 : An := (.sq .reg (.sq .reg (.sq (.sq .reg (.cd (.sq .reg .ret) .skip)) (.sq .reg .ret))))
theorem q121 : AllN 2 fun l => ∀ m t s d k, R.denF i121 a121 (bodyOf Tryz.f121) Tryz.f121.results.toList e121.ps e121.rs l ⟨m, t, s, d⟩ k = wrapF 2 2 sf121 l ⟨m, t, s, d⟩ k := by
  intro x0 x1 m t s d k
  kernel_rfl
theorem ok121 : FunOK Tryz.prog 121 e121 := fun_ok facts mixed (I := i121) (FnsOK.cons ok174 FnsOK.nil) Tryz.func121 (by kernel_rfl) (by kernel_rfl) (by kernel_rfl) (an := a121) (by kernel_rfl) (by kernel_rfl) q121
def sf122 : FT 2 2 := fun a1 a2 m t s d k=>
 ifB (beq (land (shiftRight a2 28) 131071) 0) (
 force (ifB false 1 0) fun v3=>
 k 0 v3 m t s d)<|
 okB (ifB (beq a1 0) false true)<|
 ifB (beq (land (shiftRight (land (shiftRight m (add a1 64)) 18446744073709551615) 28) 131071) 0) (
 okB (ifB (beq a1 0) false true)<|
 force (land (shiftRight m a1) 18446744073709551615) fun v4=>
 sf176 v4 a2 m t s d fun r5 r6 m7 t7 s7 d7=>
 okB (ifB (beq a1 0) false true)<|
 force (xor (land (shiftRight m7 (add a1 64)) 18446744073709551615) r5) fun v8=>
 force (xor m7 (xor (shiftLeft v8 (add a1 64)) (mod (add v8 (add a1 64)) 2305843009213693951))) fun m9=>
 okB (ifB (beq a1 0) false true)<|
 force (xor (land (shiftRight m9 a1) 18446744073709551615) r6) fun v10=>
 force (xor m9 (xor (shiftLeft v10 a1) (mod (add v10 a1) 2305843009213693951))) fun m11=>
 okB (ifB (beq a1 0) false true)<|
 okB (ble 1 (land (shiftRight (land (shiftRight m11 (add a1 64)) 18446744073709551615) 28) 131071))<|
 okB (beq (land (shiftRight d7 (shiftRight (add (land (land (shiftRight m11 (add a1 64)) 18446744073709551615) 268435455) 0) 6)) 1) 0)<|
 okB (ifB (beq a1 0) false true)<|
 okB (ifB (ble 1 (land (shiftRight (land (shiftRight m11 (add a1 64)) 18446744073709551615) 28) 131071)) (ble (land (shiftRight (land (shiftRight m11 (add a1 64)) 18446744073709551615) 28) 131071) (land (shiftRight (land (shiftRight m11 (add a1 64)) 18446744073709551615) 45) 131071)) false)<|
 force (land (shiftRight m11 (add (land (land (shiftRight m11 (add a1 64)) 18446744073709551615) 268435455) 0)) 18446744073709551615) fun v12=>
 okB (ifB (beq a1 0) false true)<|
 force (xor (land (shiftRight m11 (add a1 64)) 18446744073709551615) (ifB (beq (land (land (shiftRight m11 (add a1 64)) 18446744073709551615) 268435455) 0) (land (shiftRight m11 (add a1 64)) 18446744073709551615) (ifB (beq (add (sub (land (shiftRight (land (shiftRight m11 (add a1 64)) 18446744073709551615) 45) 131071) 1) (shiftRight (land (shiftRight m11 (add a1 64)) 18446744073709551615) 62)) 0) 9223372036854775808 (add (add (land (land (shiftRight m11 (add a1 64)) 18446744073709551615) 268435455) 64) (shiftLeft (add (sub (land (shiftRight (land (shiftRight m11 (add a1 64)) 18446744073709551615) 28) 131071) 1) (shiftLeft (add (sub (land (shiftRight (land (shiftRight m11 (add a1 64)) 18446744073709551615) 45) 131071) 1) (shiftLeft (shiftRight (land (shiftRight m11 (add a1 64)) 18446744073709551615) 62) 17)) 17)) 28))))) fun v13=>
 force (xor m11 (xor (shiftLeft v13 (add a1 64)) (mod (add v13 (add a1 64)) 2305843009213693951))) fun m14=>
 sf77 a2 v12 m14 t7 s7 d7 fun r15 m16 t16 s16 d16=>
 ifB (ifB (beq r15 1) false true) (
 false)<|
 force (ifB true 1 0) fun v17=>
 k v12 v17 m16 t16 s16 d16)<|
 false
def e122 : FunE := ⟨[.ptr (lay 169) false false, .sli ([.int .i64])], [.one (.int .i64), .one .bool], wrapF 2 2 sf122⟩
def i122 : FI := ⟨50, [], [4, 5, 6, 9, 15, 16, 48], [(77, e77), (176, e176)], []⟩
def a122 : An := (.sq .reg (.sc (.sq .reg (.sq (.sq .reg (.cd (.sq .reg .ret) .skip)) (.sq .skip (.sq (.sq .reg (.cd .reg .dead)) (.sq (.drw [(0, 0), (1, 0), (2, 0), (3, 0), (4, 0), (5, 0), (6, 0), (7, 0), (8, 0), (9, 0), (10, 0), (11, 0), (12, 0), (13, 0), (14, 0), (15, 1)]) (.sq (.sq .reg (.cd .dead .skip)) (.sq .reg .ret)))))))))
theorem q122 : AllN 2 fun l => ∀ m t s d k, R.denF i122 a122 (bodyOf Tryz.f122) Tryz.f122.results.toList e122.ps e122.rs l ⟨m, t, s, d⟩ k = wrapF 2 2 sf122 l ⟨m, t, s, d⟩ k := by
  intro x0 x1 m t s d k
  kernel_rfl
theorem ok122 : FunOK Tryz.prog 122 e122 := fun_ok facts mixed (I := i122) (FnsOK.cons ok77 (FnsOK.cons ok176 FnsOK.nil)) Tryz.func122 (by kernel_rfl) (by kernel_rfl) (by kernel_rfl) (an := a122) (by kernel_rfl) (by kernel_rfl) q122
def sf123 : FT 4 2 := fun a1 a2 a3 a4 m t s d k=>
 force a1 fun v5=>
 okB (ifB (ble (succ (xor a2 9223372036854775808)) 9223372036854775809) true (ifB (ble (succ (xor a2 9223372036854775808)) 9223372036854775809) false true))<|
 okB (ifB (ifB (ble (succ (xor a2 9223372036854775808)) 9223372036854775809) true (ble 9223372036854775841 (xor a2 9223372036854775808))) true (ifB (ifB (ble (succ (xor a2 9223372036854775808)) 9223372036854775809) true (ble 9223372036854775841 (xor a2 9223372036854775808))) false true))<|
 ifB (ifB (ifB (ble (succ (xor a2 9223372036854775808)) 9223372036854775809) true (ble 9223372036854775841 (xor a2 9223372036854775808))) true (ble 4611686018427387905 a4)) (
 false)<|
 ifB (ifB (beq (land (shiftRight v5 0) 18446744073709551615) 0) false true) (
 false)<|
 force v5 fun v6=>
 sf170 v6 m t s d fun r7 m8 t8 s8 d8=>
 force r7 fun v9=>
 force (xor v9 (shiftLeft (xor (land (shiftRight v9 0) 18446744073709551615) 1) 0)) fun v10=>
 okB (beq (land (shiftRight v5 320) 18446744073709551615) (land (shiftRight v5 320) 18446744073709551615))<|
 force (xor v10 (shiftLeft (xor (land (shiftRight v10 64) 18446744073709551615) a2) 64)) fun v11=>
 okB (beq (land (shiftRight v5 320) 18446744073709551615) (land (shiftRight v5 320) 18446744073709551615))<|
 force (xor v11 (shiftLeft (xor (land (shiftRight v11 192) 18446744073709551615) a3) 192)) fun v12=>
 okB (beq (land (shiftRight v5 320) 18446744073709551615) (land (shiftRight v5 320) 18446744073709551615))<|
 force (xor v12 (shiftLeft (xor (land (shiftRight v12 256) 18446744073709551615) (mod (add a4 (land (shiftRight v5 320) 18446744073709551615)) 18446744073709551616)) 256)) fun v13=>
 force v13 fun v14=>
 force v14 fun v15=>
 k v15 0 m8 t8 s8 d8
def e123 : FunE := ⟨[.agg (lay 95), .one (.int .i64), .one (.int .u32), .one (.int .u64)], [.agg (lay 95), .one (.int .i64)], wrapF 4 2 sf123⟩
def i123 : FI := ⟨39, [4, 8, 10], [4, 8, 9, 10, 13, 17, 20, 24], [(170, e170)], []⟩
def a123 : An := (.sq .reg (.sq (.sq .reg (.cd .dead .skip)) (.sq (.sq .reg (.cd .dead .skip)) (.sq .reg (.sq (.drw [(0, 0), (1, 0), (2, 0), (3, 0), (4, 0), (5, 0), (6, 0), (7, 1), (8, 0), (9, 1), (10, 0), (11, 1), (12, 0), (13, 1)]) (.sq .reg .ret))))))
theorem q123 : AllN 4 fun l => ∀ m t s d k, R.denF i123 a123 (bodyOf Tryz.f123) Tryz.f123.results.toList e123.ps e123.rs l ⟨m, t, s, d⟩ k = wrapF 4 2 sf123 l ⟨m, t, s, d⟩ k := by
  intro x0 x1 x2 x3 m t s d k
  kernel_rfl
theorem ok123 : FunOK Tryz.prog 123 e123 := fun_ok facts mixed (I := i123) (FnsOK.cons ok170 FnsOK.nil) Tryz.func123 (by kernel_rfl) (by kernel_rfl) (by kernel_rfl) (an := a123) (by kernel_rfl) (by kernel_rfl) q123
def sf124 : FT 3 1 := fun a1 a2 a3 m t s d k=>
 sf177 a2 m t s d fun r4 m5 t5 s5 d5=>
 okB (ifB (ifB (beq r4 1) false true) true (ifB (ifB (beq r4 1) false true) false true))<|
 ifB (ifB (ifB (beq r4 1) false true) true (ble 4611686018427387905 a3)) (
 false)<|
 okB (ifB (beq a1 0) false true)<|
 okB (ble (succ a2) 33)<|
 ifB (ifB (beq (land (shiftRight m5 (add (add (add a1 256) (mul a2 448)) 64)) 18446744073709551615) 0) false true) (
 k 6 m5 t5 s5 d5)<|
 okB (ifB (beq a1 0) false true)<|
 okB (ble (succ a2) 33)<|
 force (xor (land (shiftRight m5 (add (add a1 256) (mul a2 448))) (mask 7)) (xor (xor a2 36893488147419103232) (shiftLeft a3 320))) fun v6=>
 force (xor m5 (xor (shiftLeft v6 (add (add a1 256) (mul a2 448))) (mod (add v6 (add (add a1 256) (mul a2 448))) 2305843009213693951))) fun m7=>
 k 0 m7 t5 s5 d5
def e124 : FunE := ⟨[.ptr (lay 198) false false, .one (.int .i64), .one (.int .u64)], [.one (.int .i64)], wrapF 3 1 sf124⟩
def i124 : FI := ⟨30, [], [6, 10, 13, 21], [(177, e177)], []⟩
def a124 : An := (.sq .reg (.sq (.sq .reg (.cd .dead .skip)) (.sq (.sq .reg (.cd (.sq .reg .ret) .skip)) (.sq .reg (.sq .reg .ret)))))
theorem q124 : AllN 3 fun l => ∀ m t s d k, R.denF i124 a124 (bodyOf Tryz.f124) Tryz.f124.results.toList e124.ps e124.rs l ⟨m, t, s, d⟩ k = wrapF 3 1 sf124 l ⟨m, t, s, d⟩ k := by
  intro x0 x1 x2 m t s d k
  kernel_rfl
theorem ok124 : FunOK Tryz.prog 124 e124 := fun_ok facts mixed (I := i124) (FnsOK.cons ok177 FnsOK.nil) Tryz.func124 (by kernel_rfl) (by kernel_rfl) (by kernel_rfl) (an := a124) (by kernel_rfl) (by kernel_rfl) q124
def sf89 : FT 2 0 := fun a1 a2 m t s d k=>
 join (fun (p3 m4 t4 s4 d4 : Nat)=>
 okB (ifB (beq a1 0) false true)<|
 okB (ifB (beq a1 0) false true)<|
 force (xor (land (shiftRight m4 (add a1 2048)) 18446744073709551615) (mod (add a2 (land (shiftRight m4 (add a1 448)) 18446744073709551615)) 18446744073709551616)) fun v6=>
 force (xor m4 (xor (shiftLeft v6 (add a1 2048)) (mod (add v6 (add a1 2048)) 2305843009213693951))) fun m7=>
 okB (ifB (beq a1 0) false true)<|
 force (land (shiftRight m7 (add a1 1664)) 18446744073709551615) fun v8=>
 sf119 v8 m7 t4 s4 d4 fun r9 m10 t10 s10 d10=>
 okB (ifB (beq a1 0) false true)<|
 okB (ifB (beq a1 0) false true)<|
 force (xor (land (shiftRight m10 (add a1 1984)) 18446744073709551615) (mod (add (land (shiftRight m10 (add a1 1984)) 18446744073709551615) 1) 4294967296)) fun v11=>
 force (xor m10 (xor (shiftLeft v11 (add a1 1984)) (mod (add v11 (add a1 1984)) 2305843009213693951))) fun m12=>
 okB (ifB (beq a1 0) false true)<|
 okB (ifB (beq a1 0) false true)<|
 force (land (shiftRight m12 (add a1 1664)) 18446744073709551615) fun v13=>
 force (land (shiftRight m12 (add a1 1984)) 18446744073709551615) fun v14=>
 sf120 v13 v14 a2 m12 t10 s10 d10 fun r15 m16 t16 s16 d16=>
 join (fun (m17 t17 s17 d17 : Nat)=>
 okB (ifB (beq a1 0) false true)<|
 ifB (ifB (beq (land (shiftRight m17 (add a1 1152)) 18446744073709551615) 0) false true) (
 k m17 t17 s17 d17)<|
 okB (ifB (beq a1 0) false true)<|
 sf107 a1 0 m17 t17 s17 d17 fun r19 m20 t20 s20 d20=>
 okB (beq (land (shiftRight m20 (add a1 1088)) 18446744073709551615) (land (shiftRight m17 (add a1 1088)) 18446744073709551615))<|
 force (land (shiftRight m17 (add a1 1088)) 18446744073709551615) fun v21=>
 sf122 v21 r19 m20 t20 s20 d20 fun r22 r23 m24 t24 s24 d24=>
 ifB (ifB (beq r23 1) false true) (
 k m24 t24 s24 d24)<|
 okB (ifB (beq a1 0) false true)<|
 okB (ifB (beq a1 0) false true)<|
 force (xor (land (shiftRight m24 (add a1 1984)) 18446744073709551615) (mod (add (land (shiftRight m24 (add a1 1984)) 18446744073709551615) 1) 4294967296)) fun v25=>
 force (xor m24 (xor (shiftLeft v25 (add a1 1984)) (mod (add v25 (add a1 1984)) 2305843009213693951))) fun m26=>
 okB (ifB (beq a1 0) false true)<|
 okB (ifB (beq a1 0) false true)<|
 force (land (shiftRight m26 (add a1 1152)) (mask 7)) fun v27=>
 force (land (shiftRight m26 (add a1 1984)) 18446744073709551615) fun v28=>
 sf123 v27 r22 v28 a2 m26 t24 s24 d24 fun r29 r30 m31 t31 s31 d31=>
 okB (ifB (beq a1 0) false true)<|
 force (xor (land (shiftRight m31 (add a1 1152)) (mask 7)) r29) fun v32=>
 force (xor m31 (xor (shiftLeft v32 (add a1 1152)) (mod (add v32 (add a1 1152)) 2305843009213693951))) fun m33=>
 okB (ifB (beq a1 0) false true)<|
 sf118 a1 m33 t31 s31 d31 fun r34 m35 t35 s35 d35=>
 okB (beq (land (shiftRight m35 (add a1 1984)) 18446744073709551615) (land (shiftRight m33 (add a1 1984)) 18446744073709551615))<|
 force (xor (xor (xor 1 (shiftLeft (land (shiftRight m33 (add a1 1984)) 18446744073709551615) 128)) (shiftLeft r22 192)) (shiftLeft r34 576)) fun v36=>
 sf108 a1 r22 v36 m35 t35 s35 d35 fun r37 m38 t38 s38 d38=>
 sf121 a1 r22 m38 t38 s38 d38 fun r39 r40 m41 t41 s41 d41=>
 force r39 fun v42=>
 ifB (ifB (beq r40 1) false true) (
 okB (ifB (beq a1 0) false true)<|
 force (land (shiftRight m41 (add a1 1856)) 18446744073709551615) fun v43=>
 sf124 v43 r22 a2 m41 t41 s41 d41 fun r44 m45 t45 s45 d45=>
 k m45 t45 s45 d45)<|
 k m41 t41 s41 d41) fun J18=>
 okB (ifB (beq a1 0) false true)<|
 force (land (shiftRight m16 (add a1 1088)) 18446744073709551615) fun v46=>
 sf117 v46 p3 1 m16 t16 s16 d16 fun r47 m48 t48 s48 d48=>
 force (land (shiftRight r47 28) 131071) fun v49=>
 loopN 5 (fun (_ _ _ _ _ : Nat) => false) (fun L52 (p50 m51 t51 s51 d51 : Nat)=>
 ifB (ble (succ (xor p50 9223372036854775808)) (xor v49 9223372036854775808)) (
 okB (ble (succ p50) (land (shiftRight r47 28) 131071))<|
 okB (beq (land (shiftRight d51 (shiftRight (add (land r47 268435455) (mul p50 64)) 6)) 1) 0)<|
 force (land (shiftRight m51 (add (land r47 268435455) (mul p50 64))) 18446744073709551615) fun v53=>
 sf121 a1 v53 m51 t51 s51 d51 fun r54 r55 m56 t56 s56 d56=>
 force r54 fun v57=>
 okB (ifB (beq a1 0) false true)<|
 okB (ifB (beq a1 0) false true)<|
 force (land (shiftRight v57 64) 340282366920938463463374607431768211455) fun v58=>
 force (xor (xor 6 (shiftLeft (land (shiftRight m56 (add a1 1984)) 18446744073709551615) 128)) (shiftLeft (land (shiftRight m56 (add (add a1 640) 192)) 340282366920938463463374607431768211455) 256)) fun v59=>
 sf105 a1 v58 v59 m56 t56 s56 d56 fun m60 t60 s60 d60=>
 force (mod (add p50 1) 18446744073709551616) fun v61=>
 L52 v61 m60 t60 s60 d60)<|
 J18 m51 t51 s51 d51) 0 m48 t48 s48 d48) fun J5=>
 okB (ifB (beq a1 0) false true)<|
 force (land (shiftRight m (add a1 384)) 18446744073709551615) fun v62=>
 force (land (shiftRight v62 28) 131071) fun v63=>
 loopN 5 (fun (_ _ _ _ _ _ : Nat) => false) (fun L67 (p64 p65 m66 t66 s66 d66 : Nat)=>
 ifB (ble (succ (xor p65 9223372036854775808)) (xor v63 9223372036854775808)) (
 join (fun (p68 m69 t69 s69 d69 : Nat)=>
 force (mod (add p65 1) 18446744073709551616) fun v71=>
 L67 p68 v71 m69 t69 s69 d69) fun J70=>
 okB (ble (succ p65) (land (shiftRight v62 28) 131071))<|
 okB (beq (land (shiftRight d66 (shiftRight (add (land v62 268435455) (mul p65 256)) 6)) 15) 0)<|
 force (land (shiftRight m66 (add (land v62 268435455) (mul p65 256))) (mask 4)) fun v72=>
 okB (ifB (beq a1 0) false true)<|
 ifB (ifB (beq (land (shiftRight v72 0) 18446744073709551615) (land (shiftRight m66 a1) 18446744073709551615)) false true) (
 force (land (shiftRight v72 0) 18446744073709551615) fun v73=>
 join (fun (r74 m75 t75 s75 d75 : Nat)=>
 J70 r74 m75 t75 s75 d75) fun J76=>
 appR 1 p64 1 v73 m66 t66 s66 d66 J76)<|
 J70 p64 m66 t66 s66 d66)<|
 J5 p64 m66 t66 s66 d66) 0 0 m t s d
def e89 : FunE := ⟨[.ptr (lay 104) false false, .one (.int .u64)], [], wrapF 2 0 sf89⟩
def i89 : FI := ⟨171, [6, 9, 13, 36], [4, 6, 8, 9, 11, 12, 14, 19, 20, 21, 22, 32, 54, 76, 77, 78, 79, 82, 108, 109, 120, 121, 128, 156, 163], [(105, e105), (107, e107), (108, e108), (117, e117), (118, e118), (119, e119), (120, e120), (121, e121), (122, e122), (123, e123), (124, e124)], []⟩
def a89 : An := (.sq .reg (.sj [(4, .sh (.sli ([.int .i64])))] (.sq .reg (.bl (.lp [(4, .sh (.sli ([.int .i64]))), (21, .sh (.one (.int .i64)))] 5 (.sq .reg (.sq (.cd .skip .ex) (.sj [(4, .sh (.sli ([.int .i64])))] (.bl (.sq .reg (.sq (.drw [(0, 0), (1, 0), (2, 0), (3, 0), (4, 0), (5, 0), (6, 0), (7, 0)]) (.cd .reg .skip)))) .reg)))))) (.sq .reg (.sq .reg (.sq .reg (.sq (.drw [(0, 0), (1, 0), (2, 0), (3, 0), (4, 0), (5, 0), (6, 0), (7, 0), (8, 0), (9, 1)]) (.sj [] (.sq .reg (.bl (.lp [(78, .sh (.one (.int .i64)))] 5 (.sq .reg (.sq (.cd .skip .ex) (.sq (.bl (.sq .reg (.sq .reg (.drw [(0, 0), (1, 0), (2, 0), (3, 0), (4, 0), (5, 0), (6, 0), (7, 0), (8, 0), (9, 0), (10, 0), (11, 0), (12, 0), (13, 1)])))) .reg)))))) (.sq (.sq .reg (.cd .ret .skip)) (.sq (.drw [(0, 0), (1, 0), (2, 0), (3, 0), (4, 0), (5, 1), (6, 1), (7, 0), (8, 0), (9, 0), (10, 0), (11, 0)]) (.sq (.sq .reg (.cd .ret .skip)) (.sq .reg (.sq (.drw [(0, 0), (1, 0), (2, 0), (3, 0), (4, 0), (5, 0), (6, 0), (7, 0), (8, 0), (9, 0), (10, 0), (11, 1), (12, 0), (13, 0), (14, 0), (15, 0), (16, 0), (17, 1)]) (.sq (.drw [(0, 0), (1, 0), (2, 0), (3, 0), (4, 0), (5, 0), (6, 0), (7, 0), (8, 1), (9, 0), (10, 1)]) (.sq .reg (.sq .reg (.cd .reg .skip))))))))))))))))
theorem q89 : AllN 2 fun l => ∀ m t s d k, R.denF i89 a89 (bodyOf Tryz.f89) Tryz.f89.results.toList e89.ps e89.rs l ⟨m, t, s, d⟩ k = wrapF 2 0 sf89 l ⟨m, t, s, d⟩ k := by
  intro x0 x1 m t s d k
  kernel_rfl
theorem ok89 : FunOK Tryz.prog 89 e89 := fun_ok facts mixed (I := i89) (FnsOK.cons ok105 (FnsOK.cons ok107 (FnsOK.cons ok108 (FnsOK.cons ok117 (FnsOK.cons ok118 (FnsOK.cons ok119 (FnsOK.cons ok120 (FnsOK.cons ok121 (FnsOK.cons ok122 (FnsOK.cons ok123 (FnsOK.cons ok124 FnsOK.nil))))))))))) Tryz.func89 (by kernel_rfl) (by kernel_rfl) (by kernel_rfl) (an := a89) (by kernel_rfl) (by kernel_rfl) q89
def sf90 : FT 1 1 := fun a1 m t s d k=>
 okB (ifB (beq a1 0) false true)<|
 force (land (shiftRight m a1) 18446744073709551615) fun v2=>
 sf121 a1 v2 m t s d fun r3 r4 m5 t5 s5 d5=>
 force r3 fun v6=>
 k r4 m5 t5 s5 d5
def e90 : FunE := ⟨[.ptr (lay 104) false false], [.one .bool], wrapF 1 1 sf90⟩
def i90 : FI := ⟨16, [3], [2, 4, 5], [(121, e121)], []⟩
def a90 : An := (.sq .reg (.sq .reg (.sq .reg .ret)))
theorem q90 : AllN 1 fun l => ∀ m t s d k, R.denF i90 a90 (bodyOf Tryz.f90) Tryz.f90.results.toList e90.ps e90.rs l ⟨m, t, s, d⟩ k = wrapF 1 1 sf90 l ⟨m, t, s, d⟩ k := by
  intro x0 m t s d k
  kernel_rfl
theorem ok90 : FunOK Tryz.prog 90 e90 := fun_ok facts mixed (I := i90) (FnsOK.cons ok121 FnsOK.nil) Tryz.func90 (by kernel_rfl) (by kernel_rfl) (by kernel_rfl) (an := a90) (by kernel_rfl) (by kernel_rfl) q90
def sf178 : FT 2 1 := fun a1 a2 m t s d k=>
 join (fun (m3 t3 s3 d3 : Nat)=>
 k 18446744073709551615 m3 t3 s3 d3) fun J4=>
 force (land (shiftRight a1 28) 131071) fun v5=>
 loopN 6 (fun (_ _ _ _ _ : Nat) => false) (fun L8 (p6 m7 t7 s7 d7 : Nat)=>
 ifB (ble (succ (xor p6 9223372036854775808)) (xor v5 9223372036854775808)) (
 okB (ble (succ p6) (land (shiftRight a1 28) 131071))<|
 okB (beq (land (shiftRight d7 (shiftRight (add (land a1 268435455) (mul p6 64)) 6)) 1) 0)<|
 ifB (ifB (beq a2 1) (beq (land (shiftRight m7 (add (land a1 268435455) (mul p6 64))) 18446744073709551615) 1) (ifB (beq (land (shiftRight m7 (add (land a1 268435455) (mul p6 64))) 18446744073709551615) 1) false true)) (
 false)<|
 force (mod (add p6 1) 18446744073709551616) fun v9=>
 L8 v9 m7 t7 s7 d7)<|
 J4 m7 t7 s7 d7) 0 m t s d
def e178 : FunE := ⟨[.sli [.bool], .one .bool], [.one (.int .i64)], wrapF 2 1 sf178⟩
def i178 : FI := ⟨19, [], [4, 5, 7, 8, 9, 16], [], []⟩
def a178 : An := (.sq .reg (.sj [] (.sq .reg (.bl (.lp [(8, .sh (.one (.int .i64)))] 6 (.sq .reg (.sq (.cd .skip .ex) (.sq (.bl (.sq .reg (.sq .reg (.cd .dead .skip)))) .reg)))))) (.sq .reg .ret)))
theorem q178 : AllN 2 fun l => ∀ m t s d k, R.denF i178 a178 (bodyOf Tryz.f178) Tryz.f178.results.toList e178.ps e178.rs l ⟨m, t, s, d⟩ k = wrapF 2 1 sf178 l ⟨m, t, s, d⟩ k := by
  intro x0 x1 m t s d k
  kernel_rfl
theorem ok178 : FunOK Tryz.prog 178 e178 := fun_ok facts mixed (I := i178) FnsOK.nil Tryz.func178 (by kernel_rfl) (by kernel_rfl) (by kernel_rfl) (an := a178) (by kernel_rfl) (by kernel_rfl) q178
def sf125 : FT 2 1 := fun a1 a2 m t s d k=>
 sf178 a1 a2 m t s d fun r3 m4 t4 s4 d4=>
 force (ifB (ifB (ble (succ (xor r3 9223372036854775808)) 9223372036854775808) false true) 1 0) fun v5=>
 k v5 m4 t4 s4 d4
def e125 : FunE := ⟨[.sli [.bool], .one .bool], [.one .bool], wrapF 2 1 sf125⟩
def i125 : FI := ⟨9, [], [4], [(178, e178)], []⟩
def a125 : An := (.sq .reg (.sq .reg .ret))
theorem q125 : AllN 2 fun l => ∀ m t s d k, R.denF i125 a125 (bodyOf Tryz.f125) Tryz.f125.results.toList e125.ps e125.rs l ⟨m, t, s, d⟩ k = wrapF 2 1 sf125 l ⟨m, t, s, d⟩ k := by
  intro x0 x1 m t s d k
  kernel_rfl
theorem ok125 : FunOK Tryz.prog 125 e125 := fun_ok facts mixed (I := i125) (FnsOK.cons ok178 FnsOK.nil) Tryz.func125 (by kernel_rfl) (by kernel_rfl) (by kernel_rfl) (an := a125) (by kernel_rfl) (by kernel_rfl) q125
def sf91 : FT 1 1 := fun a1 m t s d k=>
 okB (ifB (beq a1 0) false true)<|
 okB (ifB (beq a1 0) false true)<|
 ifB (ble (succ (xor (land (shiftRight (land (shiftRight m (add a1 8576)) 18446744073709551615) 28) 131071) 9223372036854775808)) (xor (land (shiftRight m a1) 18446744073709551615) 9223372036854775808)) (
 k 0 m t s d)<|
 okB (ifB (beq a1 0) false true)<|
 force (land (shiftRight m (add a1 8576)) 18446744073709551615) fun v2=>
 force (ifB true 1 0) fun v3=>
 sf125 v2 v3 m t s d fun r4 m5 t5 s5 d5=>
 ifB (beq r4 1) (
 false)<|
 k 2 m5 t5 s5 d5
def e91 : FunE := ⟨[.ptr (lay 183) false false], [.one (.int .i64)], wrapF 1 1 sf91⟩
def i91 : FI := ⟨20, [], [2, 3, 14], [(125, e125)], []⟩
def a91 : An := (.sq .reg (.sq (.bl (.sq (.drw [(0, 0), (1, 0), (2, 0), (3, 0), (4, 0), (5, 0), (6, 0), (7, 0), (8, 0), (9, 0), (10, 0)]) (.cd (.sq .reg .ret) (.sq .reg (.cd .dead .skip))))) (.sq .reg .ret)))
theorem q91 : AllN 1 fun l => ∀ m t s d k, R.denF i91 a91 (bodyOf Tryz.f91) Tryz.f91.results.toList e91.ps e91.rs l ⟨m, t, s, d⟩ k = wrapF 1 1 sf91 l ⟨m, t, s, d⟩ k := by
  intro x0 m t s d k
  kernel_rfl
theorem ok91 : FunOK Tryz.prog 91 e91 := fun_ok facts mixed (I := i91) (FnsOK.cons ok125 FnsOK.nil) Tryz.func91 (by kernel_rfl) (by kernel_rfl) (by kernel_rfl) (an := a91) (by kernel_rfl) (by kernel_rfl) q91
def sf126 : FT 2 1 := fun a1 a2 m t s d k=>
 join (fun (p3 m4 t4 s4 d4 : Nat)=>
 k p3 m4 t4 s4 d4) fun J5=>
 okB (ifB (beq a1 0) false true)<|
 force (land (shiftRight m (add a1 128)) (mask 99)) fun v6=>
 loopN 37 (fun (_ _ _ _ _ _ : Nat) => false) (fun L10 (p7 p8 m9 t9 s9 d9 : Nat)=>
 ifB (ble (succ (xor p8 9223372036854775808)) 9223372036854775841) (
 join (fun (p11 m12 t12 s12 d12 : Nat)=>
 force (mod (add p8 1) 18446744073709551616) fun v14=>
 L10 p11 v14 m12 t12 s12 d12) fun J13=>
 okB (ble (succ p8) 33)<|
 force (land (shiftRight v6 (mul p8 192)) 6277101735386680763835789423207666416102355444464034512895) fun v15=>
 okB (ifB (ble 1 (land (shiftRight v15 64) 18446744073709551615)) (ble 1 (land (shiftRight v15 64) 18446744073709551615)) true)<|
 join (fun (r16 m17 t17 s17 d17 : Nat)=>
 okB (ifB (ifB (ble 1 (land (shiftRight v15 64) 18446744073709551615)) (ifB (ble (succ a2) (land (shiftRight v15 64) 18446744073709551615)) false true) false) (ifB (ble 1 (land (shiftRight v15 64) 18446744073709551615)) (ifB (ble (succ a2) (land (shiftRight v15 64) 18446744073709551615)) false true) false) true)<|
 ifB (ifB (ifB (ble 1 (land (shiftRight v15 64) 18446744073709551615)) (ifB (ble (succ a2) (land (shiftRight v15 64) 18446744073709551615)) false true) false) (beq r16 1) false) (
 force (land (shiftRight v15 0) 18446744073709551615) fun v19=>
 join (fun (r20 m21 t21 s21 d21 : Nat)=>
 J13 r20 m21 t21 s21 d21) fun J22=>
 appR 1 p7 1 v19 m17 t17 s17 d17 J22)<|
 J13 p7 m17 t17 s17 d17) fun J18=>
 ifB (ifB (ble 1 (land (shiftRight v15 64) 18446744073709551615)) (ifB (ble (succ a2) (land (shiftRight v15 64) 18446744073709551615)) false true) false) (
 force (land (shiftRight v15 0) 18446744073709551615) fun v23=>
 sf169 a1 v23 m9 t9 s9 d9 fun r24 m25 t25 s25 d25=>
 J18 r24 m25 t25 s25 d25)<|
 J18 0 m9 t9 s9 d9)<|
 J5 p7 m9 t9 s9 d9) 0 0 m t s d
def e126 : FunE := ⟨[.ptr (lay 193) false false, .one (.int .u64)], [.sli ([.int .i64])], wrapF 2 1 sf126⟩
def i126 : FI := ⟨37, [7, 33], [4, 5, 7, 11, 12, 13, 18, 24, 29], [(169, e169)], []⟩
def a126 : An := (.sq .reg (.sq .reg (.sj [(5, .sh (.sli ([.int .i64])))] (.sq .reg (.bl (.lp [(5, .sh (.sli ([.int .i64]))), (12, .sh (.one (.int .i64)))] 37 (.sq .reg (.sq (.cd .skip .ex) (.sj [(5, .sh (.sli ([.int .i64])))] (.bl (.sq .reg (.sq .reg (.cd .reg .skip)))) .reg)))))) (.sq .reg .ret))))
theorem q126 : AllN 2 fun l => ∀ m t s d k, R.denF i126 a126 (bodyOf Tryz.f126) Tryz.f126.results.toList e126.ps e126.rs l ⟨m, t, s, d⟩ k = wrapF 2 1 sf126 l ⟨m, t, s, d⟩ k := by
  intro x0 x1 m t s d k
  kernel_rfl
theorem ok126 : FunOK Tryz.prog 126 e126 := fun_ok facts mixed (I := i126) (FnsOK.cons ok169 FnsOK.nil) Tryz.func126 (by kernel_rfl) (by kernel_rfl) (by kernel_rfl) (an := a126) (by kernel_rfl) (by kernel_rfl) q126
def sf315 : FT 4 0 := fun a1 a2 a3 a4 m t s d k=>
 force (mod (add a2 1) 18446744073709551616) fun v5=>
 loopN 4 (fun (_ _ _ _ _ : Nat) => false) (fun L8 (p6 m7 t7 s7 d7 : Nat)=>
 ifB (ble (succ (xor p6 9223372036854775808)) (xor a3 9223372036854775808)) (
 false)<|
 k m7 t7 s7 d7) v5 m t s d
def e315 : FunE := ⟨[.sli ([.int .i64]), .one (.int .i64), .one (.int .i64), .one .fn], [], wrapF 4 0 sf315⟩
def i315 : FI := ⟨53, [], [8, 9, 14, 21, 34], [], []⟩
def a315 : An := (.sq .reg (.bl (.lp [(8, .sh (.one (.int .i64)))] 4 (.sq (.sq .reg (.cd .dead .ex)) .dead))))
theorem q315 : AllN 4 fun l => ∀ m t s d k, R.denF i315 a315 (bodyOf Tryz.f315) Tryz.f315.results.toList e315.ps e315.rs l ⟨m, t, s, d⟩ k = wrapF 4 0 sf315 l ⟨m, t, s, d⟩ k := by
  intro x0 x1 x2 x3 m t s d k
  kernel_rfl
theorem ok315 : FunOK Tryz.prog 315 e315 := fun_ok facts mixed (I := i315) FnsOK.nil Tryz.func315 (by kernel_rfl) (by kernel_rfl) (by kernel_rfl) (an := a315) (by kernel_rfl) (by kernel_rfl) q315
def sf292 : FT 3 0 := fun a1 a2 a3 m t s d k=>
 join (fun (p4 m5 t5 s5 d5 : Nat)=>
 sf315 a1 p4 a2 a3 m5 t5 s5 d5 fun m7 t7 s7 d7=>
 loopN 4 (fun (_ _ _ _ _ : Nat) => false) (fun L10 (p8 m9 t9 s9 d9 : Nat)=>
 ifB (ble (succ (xor p8 9223372036854775808)) (xor a2 9223372036854775808)) (
 false)<|
 k m9 t9 s9 d9) 20 m7 t7 s7 d7) fun J6=>
 loopN 4 (fun (_ _ _ _ _ _ : Nat) => false) (fun L14 (p11 p12 m13 t13 s13 d13 : Nat)=>
 ifB (ifB (ble (succ (xor a2 9223372036854775808)) (xor p12 9223372036854775808)) false true) (
 false)<|
 J6 p11 m13 t13 s13 d13) 0 20 m t s d
def e292 : FunE := ⟨[.sli ([.int .i64]), .one (.int .i64), .one .fn], [], wrapF 3 0 sf292⟩
def i292 : FI := ⟨63, [], [6, 7, 8, 9, 13, 30, 35, 54], [(315, e315)], []⟩
def a292 : An := (.sq .reg (.sq .reg (.sj [(7, .sh (.one (.int .i64)))] (.bl (.lp [(7, .sh (.one (.int .i64))), (8, .sh (.one (.int .i64)))] 4 (.sq (.sq .reg (.cd .dead .ex)) .dead))) (.sq .reg (.bl (.lp [(6, .sh (.one (.int .i64)))] 4 (.sq (.sq .reg (.cd .dead .ex)) .dead)))))))
theorem q292 : AllN 3 fun l => ∀ m t s d k, R.denF i292 a292 (bodyOf Tryz.f292) Tryz.f292.results.toList e292.ps e292.rs l ⟨m, t, s, d⟩ k = wrapF 3 0 sf292 l ⟨m, t, s, d⟩ k := by
  intro x0 x1 x2 m t s d k
  kernel_rfl
theorem ok292 : FunOK Tryz.prog 292 e292 := fun_ok facts mixed (I := i292) (FnsOK.cons ok315 FnsOK.nil) Tryz.func292 (by kernel_rfl) (by kernel_rfl) (by kernel_rfl) (an := a292) (by kernel_rfl) (by kernel_rfl) q292
def sf246 : FT 2 0 := fun a1 a2 m t s d k=>
 force (land (shiftRight a1 28) 131071) fun v3=>
 sf292 a1 v3 a2 m t s d fun m4 t4 s4 d4=>
 k m4 t4 s4 d4
def e246 : FunE := ⟨[.sli ([.int .i64]), .one .fn], [], wrapF 2 0 sf246⟩
def i246 : FI := ⟨9, [], [], [(292, e292)], []⟩
def a246 : An := .reg
theorem q246 : AllN 2 fun l => ∀ m t s d k, R.denF i246 a246 (bodyOf Tryz.f246) Tryz.f246.results.toList e246.ps e246.rs l ⟨m, t, s, d⟩ k = wrapF 2 0 sf246 l ⟨m, t, s, d⟩ k := by
  intro x0 x1 m t s d k
  kernel_rfl
theorem ok246 : FunOK Tryz.prog 246 e246 := fun_ok facts mixed (I := i246) (FnsOK.cons ok292 FnsOK.nil) Tryz.func246 (by kernel_rfl) (by kernel_rfl) (by kernel_rfl) (an := a246) (by kernel_rfl) (by kernel_rfl) q246
def sf180 : FT 3 1 := fun a1 a2 a3 m t s d k=>
 force (shiftLeft t 6) fun v4=>
 force (add t 1) fun t5=>
 okB (ble (succ t5) 4194304)<|
 force (xor m (xor (shiftLeft 0 (shiftLeft t 6)) (mod (add 0 t) 2305843009213693951))) fun m6=>
 force (shiftLeft t5 6) fun v7=>
 force (add t5 1) fun t8=>
 okB (ble (succ t8) 4194304)<|
 force (xor m6 (xor (shiftLeft a2 (shiftLeft t5 6)) (mod (add a2 t5) 2305843009213693951))) fun m9=>
 join (fun (p10 m11 t11 s11 d11 : Nat)=>
 okB (ifB (ifB (beq v4 0) false (ble (succ v4) 268435456)) (ifB (beq v7 0) false (ble (succ v7) 268435456)) false)<|
 force (add (add 248 (shiftLeft (shiftRight v4 6) 10)) (shiftLeft (shiftRight v7 6) 32)) fun v13=>
 sf246 p10 v13 m11 t11 s11 d11 fun m14 t14 s14 d14=>
 okB (ifB (ble 0 (ifB (ble (succ (xor (ifB (ble (succ (xor a3 9223372036854775808)) (xor (land (shiftRight p10 28) 131071) 9223372036854775808)) a3 (land (shiftRight p10 28) 131071)) 9223372036854775808)) 9223372036854775808) 0 (ifB (ble (succ (xor a3 9223372036854775808)) (xor (land (shiftRight p10 28) 131071) 9223372036854775808)) a3 (land (shiftRight p10 28) 131071)))) (ble (ifB (ble (succ (xor (ifB (ble (succ (xor a3 9223372036854775808)) (xor (land (shiftRight p10 28) 131071) 9223372036854775808)) a3 (land (shiftRight p10 28) 131071)) 9223372036854775808)) 9223372036854775808) 0 (ifB (ble (succ (xor a3 9223372036854775808)) (xor (land (shiftRight p10 28) 131071) 9223372036854775808)) a3 (land (shiftRight p10 28) 131071))) (land (shiftRight p10 45) 131071)) false)<|
 force (ifB (beq (land p10 268435455) 0) p10 (ifB (beq (add (sub (land (shiftRight p10 45) 131071) 0) (shiftRight p10 62)) 0) 9223372036854775808 (add (land p10 268435455) (shiftLeft (add (sub (ifB (ble (succ (xor (ifB (ble (succ (xor a3 9223372036854775808)) (xor (land (shiftRight p10 28) 131071) 9223372036854775808)) a3 (land (shiftRight p10 28) 131071)) 9223372036854775808)) 9223372036854775808) 0 (ifB (ble (succ (xor a3 9223372036854775808)) (xor (land (shiftRight p10 28) 131071) 9223372036854775808)) a3 (land (shiftRight p10 28) 131071))) 0) (shiftLeft (add (sub (land (shiftRight p10 45) 131071) 0) (shiftLeft (shiftRight p10 62) 17)) 17)) 28)))) fun v15=>
 k v15 m14 t14 s14 d14) fun J12=>
 force (land (shiftRight (land (shiftRight m9 v7) 18446744073709551615) 28) 131071) fun v16=>
 loopN 5 (fun (_ _ _ _ _ _ : Nat) => false) (fun L20 (p17 p18 m19 t19 s19 d19 : Nat)=>
 ifB (ble (succ (xor p18 9223372036854775808)) (xor v16 9223372036854775808)) (
 force p18 fun v21=>
 join (fun (r22 m23 t23 s23 d23 : Nat)=>
 force (mod (add p18 1) 18446744073709551616) fun v25=>
 L20 r22 v25 m23 t23 s23 d23) fun J24=>
 appR 1 p17 1 v21 m19 t19 s19 d19 J24)<|
 J12 p17 m19 t19 s19 d19) 0 0 m9 t8 s d
def e180 : FunE := ⟨[.one (.cst 0), .sli ([.cst 0]), .one (.int .i64)], [.sli ([.int .i64])], wrapF 3 1 sf180⟩
def i180 : FI := ⟨29, [16], [3, 4, 6, 7, 8, 10, 11, 12], [(246, e246)], []⟩
def a180 : An := (.sq .reg (.sq .reg (.sj [(7, .sh (.sli ([.int .i64])))] (.sq .reg (.bl (.lp [(7, .sh (.sli ([.int .i64]))), (11, .sh (.one (.int .i64)))] 5 (.sq .reg (.sq (.cd .skip .ex) (.sq (.bl (.sq .reg .reg)) .reg)))))) (.sq .reg (.sq .reg .ret)))))
theorem q180 : AllN 3 fun l => ∀ m t s d k, R.denF i180 a180 (bodyOf Tryz.f180) Tryz.f180.results.toList e180.ps e180.rs l ⟨m, t, s, d⟩ k = wrapF 3 1 sf180 l ⟨m, t, s, d⟩ k := by
  intro x0 x1 x2 m t s d k
  kernel_rfl
theorem ok180 : FunOK Tryz.prog 180 e180 := fun_ok facts mixed (I := i180) (FnsOK.cons ok246 FnsOK.nil) Tryz.func180 (by kernel_rfl) (by kernel_rfl) (by kernel_rfl) (an := a180) (by kernel_rfl) (by kernel_rfl) q180
def sf181 : FT 2 1 := fun a1 a2 m t s d k=>
 join (fun (p3 m4 t4 s4 d4 : Nat)=>
 k p3 m4 t4 s4 d4) fun J5=>
 okB (ifB (beq a1 0) false true)<|
 force (land (shiftRight m (add a1 128)) (mask 99)) fun v6=>
 loopN 37 (fun (_ _ _ _ _ _ : Nat) => false) (fun L10 (p7 p8 m9 t9 s9 d9 : Nat)=>
 ifB (ble (succ (xor p8 9223372036854775808)) 9223372036854775841) (
 join (fun (p11 m12 t12 s12 d12 : Nat)=>
 force (mod (add p8 1) 18446744073709551616) fun v14=>
 L10 p11 v14 m12 t12 s12 d12) fun J13=>
 okB (ble (succ p8) 33)<|
 force (land (shiftRight v6 (mul p8 192)) 6277101735386680763835789423207666416102355444464034512895) fun v15=>
 ifB (ble (succ a2) (land (shiftRight v15 64) 18446744073709551615)) (
 force (land (shiftRight v15 0) 18446744073709551615) fun v16=>
 join (fun (r17 m18 t18 s18 d18 : Nat)=>
 J13 r17 m18 t18 s18 d18) fun J19=>
 appR 1 p7 1 v16 m9 t9 s9 d9 J19)<|
 J13 p7 m9 t9 s9 d9)<|
 J5 p7 m9 t9 s9 d9) 0 0 m t s d
def e181 : FunE := ⟨[.ptr (lay 193) false false, .one (.int .u64)], [.sli ([.int .i64])], wrapF 2 1 sf181⟩
def i181 : FI := ⟨26, [7, 22], [4, 5, 7, 11, 12, 13, 18], [], []⟩
def a181 : An := (.sq .reg (.sq .reg (.sj [(5, .sh (.sli ([.int .i64])))] (.sq .reg (.bl (.lp [(5, .sh (.sli ([.int .i64]))), (12, .sh (.one (.int .i64)))] 37 (.sq .reg (.sq (.cd .skip .ex) (.sj [(5, .sh (.sli ([.int .i64])))] (.bl (.sq .reg (.sq .reg (.cd .reg .skip)))) .reg)))))) (.sq .reg .ret))))
theorem q181 : AllN 2 fun l => ∀ m t s d k, R.denF i181 a181 (bodyOf Tryz.f181) Tryz.f181.results.toList e181.ps e181.rs l ⟨m, t, s, d⟩ k = wrapF 2 1 sf181 l ⟨m, t, s, d⟩ k := by
  intro x0 x1 m t s d k
  kernel_rfl
theorem ok181 : FunOK Tryz.prog 181 e181 := fun_ok facts mixed (I := i181) FnsOK.nil Tryz.func181 (by kernel_rfl) (by kernel_rfl) (by kernel_rfl) (an := a181) (by kernel_rfl) (by kernel_rfl) q181
def sf127 : FT 5 1 := fun a1 a2 a3 a4 a5 m t s d k=>
 join (loopN 4 (fun (_ _ _ _ _ _ _ : Nat) => false) (fun L10 (p6 p7 p8 m9 t9 s9 d9 : Nat)=>
 join (fun (p12 m13 t13 s13 d13 : Nat)=>
 k p12 m13 t13 s13 d13) fun J14=>
 okB (ifB (beq a1 0) false true)<|
 sf181 a1 a2 m9 t9 s9 d9 fun r15 m16 t16 s16 d16=>
 okB (beq (land (shiftRight m16 a1) 18446744073709551615) (land (shiftRight m9 a1) 18446744073709551615))<|
 force (mod (sub (add (land (shiftRight m9 a1) 18446744073709551615) 18446744073709551616) (land (shiftRight r15 28) 131071)) 18446744073709551616) fun v17=>
 sf180 0 p8 v17 m16 t16 s16 d16 fun r18 m19 t19 s19 d19=>
 force (land (shiftRight r18 28) 131071) fun v20=>
 loopN 5 (fun (_ _ _ _ _ _ : Nat) => false) (fun L24 (p21 p22 m23 t23 s23 d23 : Nat)=>
 ifB (ble (succ (xor p22 9223372036854775808)) (xor v20 9223372036854775808)) (
 okB (ble (succ p22) (land (shiftRight r18 28) 131071))<|
 okB (beq (land (shiftRight d23 (shiftRight (add (land r18 268435455) (mul p22 64)) 6)) 1) 0)<|
 force (land (shiftRight m23 (add (land r18 268435455) (mul p22 64))) 18446744073709551615) fun v25=>
 okB (ble (succ v25) (land (shiftRight p6 28) 131071))<|
 okB (beq (land (shiftRight d23 (shiftRight (add (land p6 268435455) (mul v25 64)) 6)) 1) 0)<|
 force (land (shiftRight m23 (add (land p6 268435455) (mul v25 64))) 18446744073709551615) fun v26=>
 okB (ifB (beq a1 0) false true)<|
 okB (ble (succ v26) 33)<|
 okB (ifB (beq a1 0) false true)<|
 force (xor (land (shiftRight m23 (add (add a1 128) (mul v26 192))) 18446744073709551615) v26) fun v27=>
 force (xor m23 (xor (shiftLeft v27 (add (add a1 128) (mul v26 192))) (mod (add v27 (add (add a1 128) (mul v26 192))) 2305843009213693951))) fun m28=>
 okB (ble (succ v26) 33)<|
 force (xor (land (shiftRight m28 (add (add (add a1 128) (mul v26 192)) 128)) 18446744073709551615) a2) fun v29=>
 force (xor m28 (xor (shiftLeft v29 (add (add (add a1 128) (mul v26 192)) 128)) (mod (add v29 (add (add (add a1 128) (mul v26 192)) 128)) 2305843009213693951))) fun m30=>
 force v26 fun v31=>
 join (fun (r32 m33 t33 s33 d33 : Nat)=>
 force (mod (add p22 1) 18446744073709551616) fun v35=>
 L24 r32 v35 m33 t33 s33 d33) fun J34=>
 appR 1 p21 1 v31 m30 t23 s23 d23 J34)<|
 J14 p21 m23 t23 s23 d23) p7 0 m19 t19 s19 d19)) fun J11=>
 join (loopN 4 (fun (_ _ _ _ _ _ _ _ : Nat) => false) (fun L41 (p36 p37 p38 p39 m40 t40 s40 d40 : Nat)=>
 force (mod (add p39 1) 18446744073709551616) fun v43=>
 ifB (beq v43 (land (shiftRight a4 28) 131071)) (
 J11 p36 p37 p38 m40 t40 s40 d40)<|
 okB (ble (succ v43) (land (shiftRight a4 28) 131071))<|
 okB (beq (land (shiftRight d40 (shiftRight (add (land a4 268435455) (mul v43 64)) 6)) 1) 0)<|
 force (land (shiftRight m40 (add (land a4 268435455) (mul v43 64))) 18446744073709551615) fun v44=>
 sf179 v44 m40 t40 s40 d40 fun r45 m46 t46 s46 d46=>
 okB (ifB (ifB (ifB (beq r45 1) false true) false true) (ifB (ble 0 v43) (ble v43 (land (shiftRight a4 45) 131071)) false) true)<|
 join (fun (r47 m48 t48 s48 d48 : Nat)=>
 okB (ifB (ifB (beq r45 1) false true) true (ifB (ifB (beq r45 1) false true) false true))<|
 okB (ifB (ifB (ifB (ifB (beq r45 1) false true) true (beq r47 1)) false true) (ifB (beq a1 0) false true) true)<|
 okB (ifB (ifB (ifB (ifB (beq r45 1) false true) true (beq r47 1)) false true) (ble (succ v44) 33) true)<|
 okB (ifB (ifB (ifB (beq r45 1) false true) true (beq r47 1)) true (ifB (ifB (ifB (beq r45 1) false true) true (beq r47 1)) false true))<|
 okB (ifB (ifB (ifB (ifB (ifB (beq r45 1) false true) true (beq r47 1)) true (ble (succ a2) (land (shiftRight m48 (add (add (add a1 128) (mul v44 192)) 64)) 18446744073709551615))) false true) (ifB (beq a1 0) false true) true)<|
 okB (ifB (ifB (ifB (ifB (ifB (beq r45 1) false true) true (beq r47 1)) true (ble (succ a2) (land (shiftRight m48 (add (add (add a1 128) (mul v44 192)) 64)) 18446744073709551615))) false true) (ble (succ v44) 33) true)<|
 okB (ifB (ifB (ifB (ifB (ifB (ifB (beq r45 1) false true) true (beq r47 1)) true (ble (succ a2) (land (shiftRight m48 (add (add (add a1 128) (mul v44 192)) 64)) 18446744073709551615))) false true) (ble 9223372036854775809 (xor (land (shiftRight m48 (add (add a1 128) (mul v44 192))) 18446744073709551615) 9223372036854775808)) false) (ifB (beq a1 0) false true) true)<|
 okB (ifB (ifB (ifB (ifB (ifB (ifB (beq r45 1) false true) true (beq r47 1)) true (ble (succ a2) (land (shiftRight m48 (add (add (add a1 128) (mul v44 192)) 64)) 18446744073709551615))) false true) (ble 9223372036854775809 (xor (land (shiftRight m48 (add (add a1 128) (mul v44 192))) 18446744073709551615) 9223372036854775808)) false) (ble (succ v44) 33) true)<|
 okB (ifB (ifB (ifB (ifB (ifB (ifB (beq r45 1) false true) true (beq r47 1)) true (ble (succ a2) (land (shiftRight m48 (add (add (add a1 128) (mul v44 192)) 64)) 18446744073709551615))) false true) (ble 9223372036854775809 (xor (land (shiftRight m48 (add (add a1 128) (mul v44 192))) 18446744073709551615) 9223372036854775808)) false) (ifB (beq a1 0) false true) true)<|
 okB (ifB (ifB (ifB (ifB (ifB (beq r45 1) false true) true (beq r47 1)) true (ble (succ a2) (land (shiftRight m48 (add (add (add a1 128) (mul v44 192)) 64)) 18446744073709551615))) false true) (ifB (ble 9223372036854775809 (xor (land (shiftRight m48 (add (add a1 128) (mul v44 192))) 18446744073709551615) 9223372036854775808)) (ifB (ifB (ifB (ifB (ifB (beq r45 1) false true) true (beq r47 1)) true (ble (succ a2) (land (shiftRight m48 (add (add (add a1 128) (mul v44 192)) 64)) 18446744073709551615))) false true) (ble 9223372036854775809 (xor (land (shiftRight m48 (add (add a1 128) (mul v44 192))) 18446744073709551615) 9223372036854775808)) false) true) true)<|
 okB (ifB (ifB (ifB (ifB (beq r45 1) false true) true (beq r47 1)) true (ble (succ a2) (land (shiftRight m48 (add (add (add a1 128) (mul v44 192)) 64)) 18446744073709551615))) true (ifB (ifB (ifB (ifB (beq r45 1) false true) true (beq r47 1)) true (ble (succ a2) (land (shiftRight m48 (add (add (add a1 128) (mul v44 192)) 64)) 18446744073709551615))) false true))<|
 ifB (ifB (ifB (ifB (ifB (beq r45 1) false true) true (beq r47 1)) true (ble (succ a2) (land (shiftRight m48 (add (add (add a1 128) (mul v44 192)) 64)) 18446744073709551615))) true (ifB (ble 9223372036854775809 (xor (land (shiftRight m48 (add (add a1 128) (mul v44 192))) 18446744073709551615) 9223372036854775808)) (ble (succ a2) (mod (add (land (shiftRight m48 (add (add (add a1 128) (mul v44 192)) 128)) 18446744073709551615) (land (shiftRight m48 (add a1 64)) 18446744073709551615)) 18446744073709551616)) false)) (
 L41 p36 p37 p38 v43 m48 t48 s48 d48)<|
 okB (ble (succ v43) (land (shiftRight a4 28) 131071))<|
 okB (beq (land (shiftRight d48 (shiftRight (add (land a4 268435455) (mul v43 64)) 6)) 1) 0)<|
 okB (ble (succ v43) (land (shiftRight a5 28) 131071))<|
 okB (beq (land (shiftRight d48 (shiftRight (add (land a5 268435455) (mul v43 64)) 6)) 1) 0)<|
 force (land (shiftRight m48 (add (land a4 268435455) (mul v43 64))) 18446744073709551615) fun v50=>
 okB (beq (land (shiftRight d48 (shiftRight (add (land a5 268435455) (mul v43 64)) 6)) 1) 0)<|
 okB true<|
 join (fun (r51 m52 t52 s52 d52 : Nat)=>
 okB (beq (land (shiftRight d52 (shiftRight (add (land a5 268435455) (mul v43 64)) 6)) 1) 0)<|
 okB true<|
 force 0 fun v54=>
 okB (beq (land (shiftRight d52 (shiftRight (add (land a4 268435455) (mul v43 64)) 6)) 1) 0)<|
 okB (beq (land (shiftRight m52 (add (land a4 268435455) (mul v43 64))) 18446744073709551615) (land (shiftRight m48 (add (land a4 268435455) (mul v43 64))) 18446744073709551615))<|
 join (fun (r55 m56 t56 s56 d56 : Nat)=>
 L41 r51 p37 r55 v43 m56 t56 s56 d56) fun J57=>
 appR 1 p38 1 v54 m52 t52 s52 d52 J57) fun J53=>
 appR 1 p36 1 v50 m48 t48 s48 d48 J53) fun J49=>
 ifB (ifB (ifB (beq r45 1) false true) false true) (
 force (ifB (beq (land a4 268435455) 0) a4 (ifB (beq (add (sub (land (shiftRight a4 45) 131071) 0) (shiftRight a4 62)) 0) 9223372036854775808 (add (land a4 268435455) (shiftLeft (add (sub v43 0) (shiftLeft (add (sub (land (shiftRight a4 45) 131071) 0) (shiftLeft (shiftRight a4 62) 17)) 17)) 28)))) fun v58=>
 sf77 v58 v44 m46 t46 s46 d46 fun r59 m60 t60 s60 d60=>
 J49 r59 m60 t60 s60 d60)<|
 J49 0 m46 t46 s46 d46)) fun J42=>
 okB (ifB (ble 4611686018427387905 a2) true (ifB (ble 4611686018427387905 a2) false true))<|
 ifB (ifB (ble 4611686018427387905 a2) true (ifB (beq (land (shiftRight a4 28) 131071) (land (shiftRight a5 28) 131071)) false true)) (
 false)<|
 force 0 fun v61=>
 ifB (beq v61 (land (shiftRight a4 28) 131071)) (
 J11 0 0 0 m t s d)<|
 okB (ble (succ v61) (land (shiftRight a4 28) 131071))<|
 okB (beq (land (shiftRight d (shiftRight (add (land a4 268435455) (mul v61 64)) 6)) 1) 0)<|
 force (land (shiftRight m (add (land a4 268435455) (mul v61 64))) 18446744073709551615) fun v62=>
 sf179 v62 m t s d fun r63 m64 t64 s64 d64=>
 okB (ifB (ifB (ifB (beq r63 1) false true) false true) (ifB (ble 0 v61) (ble v61 (land (shiftRight a4 45) 131071)) false) true)<|
 join (fun (r65 m66 t66 s66 d66 : Nat)=>
 okB (ifB (ifB (beq r63 1) false true) true (ifB (ifB (beq r63 1) false true) false true))<|
 okB (ifB (ifB (ifB (ifB (beq r63 1) false true) true (beq r65 1)) false true) (ifB (beq a1 0) false true) true)<|
 okB (ifB (ifB (ifB (ifB (beq r63 1) false true) true (beq r65 1)) false true) (ble (succ v62) 33) true)<|
 okB (ifB (ifB (ifB (beq r63 1) false true) true (beq r65 1)) true (ifB (ifB (ifB (beq r63 1) false true) true (beq r65 1)) false true))<|
 okB (ifB (ifB (ifB (ifB (ifB (beq r63 1) false true) true (beq r65 1)) true (ble (succ a2) (land (shiftRight m66 (add (add (add a1 128) (mul v62 192)) 64)) 18446744073709551615))) false true) (ifB (beq a1 0) false true) true)<|
 okB (ifB (ifB (ifB (ifB (ifB (beq r63 1) false true) true (beq r65 1)) true (ble (succ a2) (land (shiftRight m66 (add (add (add a1 128) (mul v62 192)) 64)) 18446744073709551615))) false true) (ble (succ v62) 33) true)<|
 okB (ifB (ifB (ifB (ifB (ifB (ifB (beq r63 1) false true) true (beq r65 1)) true (ble (succ a2) (land (shiftRight m66 (add (add (add a1 128) (mul v62 192)) 64)) 18446744073709551615))) false true) (ble 9223372036854775809 (xor (land (shiftRight m66 (add (add a1 128) (mul v62 192))) 18446744073709551615) 9223372036854775808)) false) (ifB (beq a1 0) false true) true)<|
 okB (ifB (ifB (ifB (ifB (ifB (ifB (beq r63 1) false true) true (beq r65 1)) true (ble (succ a2) (land (shiftRight m66 (add (add (add a1 128) (mul v62 192)) 64)) 18446744073709551615))) false true) (ble 9223372036854775809 (xor (land (shiftRight m66 (add (add a1 128) (mul v62 192))) 18446744073709551615) 9223372036854775808)) false) (ble (succ v62) 33) true)<|
 okB (ifB (ifB (ifB (ifB (ifB (ifB (beq r63 1) false true) true (beq r65 1)) true (ble (succ a2) (land (shiftRight m66 (add (add (add a1 128) (mul v62 192)) 64)) 18446744073709551615))) false true) (ble 9223372036854775809 (xor (land (shiftRight m66 (add (add a1 128) (mul v62 192))) 18446744073709551615) 9223372036854775808)) false) (ifB (beq a1 0) false true) true)<|
 okB (ifB (ifB (ifB (ifB (ifB (beq r63 1) false true) true (beq r65 1)) true (ble (succ a2) (land (shiftRight m66 (add (add (add a1 128) (mul v62 192)) 64)) 18446744073709551615))) false true) (ifB (ble 9223372036854775809 (xor (land (shiftRight m66 (add (add a1 128) (mul v62 192))) 18446744073709551615) 9223372036854775808)) (ifB (ifB (ifB (ifB (ifB (beq r63 1) false true) true (beq r65 1)) true (ble (succ a2) (land (shiftRight m66 (add (add (add a1 128) (mul v62 192)) 64)) 18446744073709551615))) false true) (ble 9223372036854775809 (xor (land (shiftRight m66 (add (add a1 128) (mul v62 192))) 18446744073709551615) 9223372036854775808)) false) true) true)<|
 okB (ifB (ifB (ifB (ifB (beq r63 1) false true) true (beq r65 1)) true (ble (succ a2) (land (shiftRight m66 (add (add (add a1 128) (mul v62 192)) 64)) 18446744073709551615))) true (ifB (ifB (ifB (ifB (beq r63 1) false true) true (beq r65 1)) true (ble (succ a2) (land (shiftRight m66 (add (add (add a1 128) (mul v62 192)) 64)) 18446744073709551615))) false true))<|
 ifB (ifB (ifB (ifB (ifB (beq r63 1) false true) true (beq r65 1)) true (ble (succ a2) (land (shiftRight m66 (add (add (add a1 128) (mul v62 192)) 64)) 18446744073709551615))) true (ifB (ble 9223372036854775809 (xor (land (shiftRight m66 (add (add a1 128) (mul v62 192))) 18446744073709551615) 9223372036854775808)) (ble (succ a2) (mod (add (land (shiftRight m66 (add (add (add a1 128) (mul v62 192)) 128)) 18446744073709551615) (land (shiftRight m66 (add a1 64)) 18446744073709551615)) 18446744073709551616)) false)) (
 J42 0 0 0 v61 m66 t66 s66 d66)<|
 okB (ble (succ v61) (land (shiftRight a4 28) 131071))<|
 okB (beq (land (shiftRight d66 (shiftRight (add (land a4 268435455) (mul v61 64)) 6)) 1) 0)<|
 okB (ble (succ v61) (land (shiftRight a5 28) 131071))<|
 okB (beq (land (shiftRight d66 (shiftRight (add (land a5 268435455) (mul v61 64)) 6)) 1) 0)<|
 force (land (shiftRight m66 (add (land a4 268435455) (mul v61 64))) 18446744073709551615) fun v68=>
 okB (beq (land (shiftRight d66 (shiftRight (add (land a5 268435455) (mul v61 64)) 6)) 1) 0)<|
 okB true<|
 join (fun (r69 m70 t70 s70 d70 : Nat)=>
 okB (beq (land (shiftRight d70 (shiftRight (add (land a5 268435455) (mul v61 64)) 6)) 1) 0)<|
 okB true<|
 force 0 fun v72=>
 okB (beq (land (shiftRight d70 (shiftRight (add (land a4 268435455) (mul v61 64)) 6)) 1) 0)<|
 okB (beq (land (shiftRight m70 (add (land a4 268435455) (mul v61 64))) 18446744073709551615) (land (shiftRight m66 (add (land a4 268435455) (mul v61 64))) 18446744073709551615))<|
 join (fun (r73 m74 t74 s74 d74 : Nat)=>
 J42 r69 0 r73 v61 m74 t74 s74 d74) fun J75=>
 appR 1 0 1 v72 m70 t70 s70 d70 J75) fun J71=>
 appR 1 0 1 v68 m66 t66 s66 d66 J71) fun J67=>
 ifB (ifB (ifB (beq r63 1) false true) false true) (
 force (ifB (beq (land a4 268435455) 0) a4 (ifB (beq (add (sub (land (shiftRight a4 45) 131071) 0) (shiftRight a4 62)) 0) 9223372036854775808 (add (land a4 268435455) (shiftLeft (add (sub v61 0) (shiftLeft (add (sub (land (shiftRight a4 45) 131071) 0) (shiftLeft (shiftRight a4 62) 17)) 17)) 28)))) fun v76=>
 sf77 v76 v62 m64 t64 s64 d64 fun r77 m78 t78 s78 d78=>
 J67 r77 m78 t78 s78 d78)<|
 J67 0 m64 t64 s64 d64
def e127 : FunE := ⟨[.ptr (lay 193) false false, .one (.int .u64), .one (.cst 0), .sli ([.int .i64]), .sli ([.cst 0])], [.sli ([.int .i64])], wrapF 5 1 sf127⟩
def i127 : FI := ⟨140, [90, 97, 136], [10, 11, 12, 13, 14, 15, 17, 18, 21, 27, 33, 41, 48, 59, 68, 84, 110, 111, 112, 113], [(77, e77), (179, e179), (180, e180), (181, e181)], []⟩
def a127 : An := (.sq .reg (.sc (.lb 0 [(11, .sh (.sli ([.int .i64]))), (12, .sh (.sli ([.int .i64]))), (13, .sh (.sli ([.cst 0])))] 4 (.sq .skip (.sj [(12, .sh (.sli ([.int .i64])))] (.sq (.drw [(0, 0), (1, 0), (2, 0), (3, 0), (4, 0), (5, 0), (6, 0), (7, 0), (13, 0), (8, 1), (9, 0), (10, 0), (11, 1), (12, 0)]) (.bl (.lp [(12, .sh (.sli ([.int .i64]))), (112, .sh (.one (.int .i64)))] 5 (.sq .reg (.sq (.cd .skip .ex) (.sq (.bl (.sq .reg (.sq .reg (.sq (.drw [(0, 0), (1, 0), (2, 0), (3, 0), (4, 0), (5, 0), (6, 0), (7, 0), (8, 0), (9, 0), (11, 0), (12, 0), (10, 1), (13, 0), (14, 0), (15, 1)]) .reg)))) .reg)))))) (.sq .reg .ret))) (.lb 1 [(11, .sh (.sli ([.int .i64]))), (12, .sh (.sli ([.int .i64]))), (13, .sh (.sli ([.cst 0]))), (14, .sh (.one (.int .i64)))] 4 (.sq .skip (.sq (.sq .reg (.sq .reg (.cd .go .skip))) (.sq (.sq .reg (.sq (.drw [(0, 0), (1, 1), (2, 0), (3, 0), (4, 0), (5, 0), (6, 0), (7, 0), (8, 1), (9, 0), (10, 0), (11, 0), (12, 0), (13, 0), (14, 0), (15, 0), (16, 0), (17, 0), (18, 0), (19, 0), (20, 0), (21, 0), (22, 0), (23, 0), (24, 0), (25, 0), (26, 0), (27, 0), (28, 0), (29, 0), (30, 0), (31, 0), (32, 0), (33, 0), (34, 0), (35, 0), (36, 0), (37, 0), (38, 0), (39, 0), (40, 0), (41, 0), (42, 0), (43, 0), (44, 0), (45, 0), (46, 0)]) (.cd .go .skip))) (.sq (.drw [(0, 0), (1, 0), (2, 0), (3, 0), (4, 0), (7, 0), (8, 0), (9, 0), (10, 0), (11, 0), (5, 2), (6, 1), (12, 2), (13, 1), (14, 1), (15, 1)]) (.sq .go .dead))))) (.sq .reg (.sq .reg (.sq .reg (.sq (.sq .reg (.cd .dead .skip)) (.sq .skip (.sq (.sq .reg (.sq .reg (.cd .go .skip))) (.sq (.sq .reg (.sq (.drw [(0, 0), (1, 1), (2, 0), (3, 0), (4, 0), (5, 0), (6, 0), (7, 0), (8, 1), (9, 0), (10, 0), (11, 0), (12, 0), (13, 0), (14, 0), (15, 0), (16, 0), (17, 0), (18, 0), (19, 0), (20, 0), (21, 0), (22, 0), (23, 0), (24, 0), (25, 0), (26, 0), (27, 0), (28, 0), (29, 0), (30, 0), (31, 0), (32, 0), (33, 0), (34, 0), (35, 0), (36, 0), (37, 0), (38, 0), (39, 0), (40, 0), (41, 0), (42, 0), (43, 0), (44, 0), (45, 0), (46, 0)]) (.cd .go .skip))) (.sq (.drw [(0, 0), (1, 0), (2, 0), (3, 0), (4, 0), (7, 0), (8, 0), (9, 0), (10, 0), (11, 0), (5, 2), (6, 1), (12, 2), (13, 1), (14, 1), (15, 1)]) (.sq .go .dead)))))))))))))
theorem q127 : AllN 5 fun l => ∀ m t s d k, R.denF i127 a127 (bodyOf Tryz.f127) Tryz.f127.results.toList e127.ps e127.rs l ⟨m, t, s, d⟩ k = wrapF 5 1 sf127 l ⟨m, t, s, d⟩ k := by
  intro x0 x1 x2 x3 x4 m t s d k
  kernel_rfl
theorem ok127 : FunOK Tryz.prog 127 e127 := fun_ok facts mixed (I := i127) (FnsOK.cons ok77 (FnsOK.cons ok179 (FnsOK.cons ok180 (FnsOK.cons ok181 FnsOK.nil)))) Tryz.func127 (by kernel_rfl) (by kernel_rfl) (by kernel_rfl) (an := a127) (by kernel_rfl) (by kernel_rfl) q127
def sf128 : FT 2 1 := fun a1 a2 m t s d k=>
 okB (ifB (beq a1 0) false true)<|
 force (land (shiftRight m (add a1 1792)) 18446744073709551615) fun v3=>
 sf181 v3 a2 m t s d fun r4 m5 t5 s5 d5=>
 k r4 m5 t5 s5 d5
def e128 : FunE := ⟨[.ptr (lay 104) false false, .one (.int .u64)], [.sli ([.int .i64])], wrapF 2 1 sf128⟩
def i128 : FI := ⟨11, [], [4], [(181, e181)], []⟩
def a128 : An := (.sq .reg (.sq .reg .ret))
theorem q128 : AllN 2 fun l => ∀ m t s d k, R.denF i128 a128 (bodyOf Tryz.f128) Tryz.f128.results.toList e128.ps e128.rs l ⟨m, t, s, d⟩ k = wrapF 2 1 sf128 l ⟨m, t, s, d⟩ k := by
  intro x0 x1 m t s d k
  kernel_rfl
theorem ok128 : FunOK Tryz.prog 128 e128 := fun_ok facts mixed (I := i128) (FnsOK.cons ok181 FnsOK.nil) Tryz.func128 (by kernel_rfl) (by kernel_rfl) (by kernel_rfl) (an := a128) (by kernel_rfl) (by kernel_rfl) q128
def sf92 : FT 3 0 := fun a1 a2 a3 m t s d k=>
 okB (ifB (beq a1 0) false true)<|
 force (land (shiftRight m (add a1 1792)) 18446744073709551615) fun v4=>
 sf126 v4 a2 m t s d fun r5 m6 t6 s6 d6=>
 join (fun (p7 p8 m9 t9 s9 d9 : Nat)=>
 join (fun (m11 t11 s11 d11 : Nat)=>
 sf128 a1 a2 m11 t11 s11 d11 fun r13 m14 t14 s14 d14=>
 force (land (shiftRight r13 28) 131071) fun v15=>
 loopN 5 (fun (_ _ _ _ _ : Nat) => false) (fun L18 (p16 m17 t17 s17 d17 : Nat)=>
 ifB (ble (succ (xor p16 9223372036854775808)) (xor v15 9223372036854775808)) (
 join (fun (m19 t19 s19 d19 : Nat)=>
 force (mod (add p16 1) 18446744073709551616) fun v21=>
 L18 v21 m19 t19 s19 d19) fun J20=>
 okB (ble (succ p16) (land (shiftRight r13 28) 131071))<|
 okB (beq (land (shiftRight d17 (shiftRight (add (land r13 268435455) (mul p16 64)) 6)) 1) 0)<|
 force (land (shiftRight m17 (add (land r13 268435455) (mul p16 64))) 18446744073709551615) fun v22=>
 sf121 a1 v22 m17 t17 s17 d17 fun r23 r24 m25 t25 s25 d25=>
 force r23 fun v26=>
 okB (ifB (beq r24 1) (beq r24 1) true)<|
 ifB (ifB (beq r24 1) (beq a3 1) false) (
 force (land (shiftRight v26 64) 340282366920938463463374607431768211455) fun v27=>
 force 12 fun v28=>
 sf105 a1 v27 v28 m25 t25 s25 d25 fun m29 t29 s29 d29=>
 J20 m29 t29 s29 d29)<|
 J20 m25 t25 s25 d25)<|
 k m17 t17 s17 d17) 0 m14 t14 s14 d14) fun J12=>
 okB (ifB (beq a1 0) false true)<|
 okB (ifB (beq a1 0) false true)<|
 force (land (shiftRight m9 (add a1 1792)) 18446744073709551615) fun v30=>
 sf127 v30 a2 0 p7 p8 m9 t9 s9 d9 fun r31 m32 t32 s32 d32=>
 force (land (shiftRight r31 28) 131071) fun v33=>
 loopN 5 (fun (_ _ _ _ _ : Nat) => false) (fun L36 (p34 m35 t35 s35 d35 : Nat)=>
 ifB (ble (succ (xor p34 9223372036854775808)) (xor v33 9223372036854775808)) (
 okB (ble (succ p34) (land (shiftRight r31 28) 131071))<|
 okB (beq (land (shiftRight d35 (shiftRight (add (land r31 268435455) (mul p34 64)) 6)) 1) 0)<|
 force (land (shiftRight m35 (add (land r31 268435455) (mul p34 64))) 18446744073709551615) fun v37=>
 sf121 a1 v37 m35 t35 s35 d35 fun r38 r39 m40 t40 s40 d40=>
 force r38 fun v41=>
 force (land (shiftRight v41 64) 340282366920938463463374607431768211455) fun v42=>
 force (xor 10 (shiftLeft (ifB true 1 0) 448)) fun v43=>
 sf105 a1 v42 v43 m40 t40 s40 d40 fun m44 t44 s44 d44=>
 force (mod (add p34 1) 18446744073709551616) fun v45=>
 L36 v45 m44 t44 s44 d44)<|
 J12 m35 t35 s35 d35) 0 m32 t32 s32 d32) fun J10=>
 okB (ifB (beq a1 0) false true)<|
 force (land (shiftRight m6 (add a1 384)) 18446744073709551615) fun v46=>
 force (land (shiftRight v46 28) 131071) fun v47=>
 loopN 5 (fun (_ _ _ _ _ _ _ : Nat) => false) (fun L52 (p48 p49 p50 m51 t51 s51 d51 : Nat)=>
 ifB (ble (succ (xor p50 9223372036854775808)) (xor v47 9223372036854775808)) (
 okB (ble (succ p50) (land (shiftRight v46 28) 131071))<|
 okB (beq (land (shiftRight d51 (shiftRight (add (land v46 268435455) (mul p50 256)) 6)) 15) 0)<|
 force (land (shiftRight m51 (add (land v46 268435455) (mul p50 256))) (mask 4)) fun v53=>
 okB (ifB (beq a1 0) false true)<|
 force (land (shiftRight m51 (add a1 960)) 18446744073709551615) fun v54=>
 force (land (shiftRight v53 0) 18446744073709551615) fun v55=>
 sf14 v54 v55 m51 t51 s51 d51 fun r56 r57 m58 t58 s58 d58=>
 okB (beq (land (shiftRight v53 0) 18446744073709551615) (land (shiftRight v53 0) 18446744073709551615))<|
 okB (beq (land (shiftRight m58 (add a1 960)) 18446744073709551615) (land (shiftRight m51 (add a1 960)) 18446744073709551615))<|
 force r56 fun v59=>
 join (fun (r60 m61 t61 s61 d61 : Nat)=>
 okB (ifB (beq r57 1) (beq r57 1) true)<|
 okB (ifB (ifB (beq r57 1) (beq r60 1) false) (ifB (beq a1 0) false true) true)<|
 okB (ifB (ifB (beq r57 1) (beq r60 1) false) (ifB (beq r57 1) (beq r60 1) false) true)<|
 ifB (ifB (ifB (beq r57 1) (beq r60 1) false) (ifB (beq (land (shiftRight v53 0) 18446744073709551615) (land (shiftRight m61 a1) 18446744073709551615)) false true) false) (
 force (land (shiftRight v53 0) 18446744073709551615) fun v63=>
 okB true<|
 join (fun (r64 m65 t65 s65 d65 : Nat)=>
 okB true<|
 force 0 fun v67=>
 okB (beq (land (shiftRight v53 0) 18446744073709551615) (land (shiftRight v53 0) 18446744073709551615))<|
 join (fun (r68 m69 t69 s69 d69 : Nat)=>
 force (mod (add p50 1) 18446744073709551616) fun v71=>
 L52 r64 r68 v71 m69 t69 s69 d69) fun J70=>
 appR 1 p49 1 v67 m65 t65 s65 d65 J70) fun J66=>
 appR 1 p48 1 v63 m61 t61 s61 d61 J66)<|
 false) fun J62=>
 ifB (beq r57 1) (
 force v59 fun v72=>
 sf16 v72 m58 t58 s58 d58 fun r73 m74 t74 s74 d74=>
 J62 r73 m74 t74 s74 d74)<|
 J62 0 m58 t58 s58 d58)<|
 J10 p48 p49 m51 t51 s51 d51) 0 0 0 m6 t6 s6 d6
def e92 : FunE := ⟨[.ptr (lay 104) false false, .one (.int .u64), .one .bool], [], wrapF 3 0 sf92⟩
def i92 : FI := ⟨126, [9, 10, 14, 18, 64, 69], [6, 7, 9, 10, 11, 13, 14, 17, 18, 19, 30, 31, 32, 33, 36, 47, 51, 60, 84, 85, 86, 87, 90, 104, 105, 106, 107, 110, 117, 119], [(14, e14), (16, e16), (105, e105), (121, e121), (126, e126), (127, e127), (128, e128)], []⟩
def a92 : An := (.sq .reg (.sq .reg (.sq .reg (.sj [(6, .sh (.sli ([.int .i64]))), (7, .sh (.sli ([.cst 0])))] (.sq .reg (.bl (.lp [(6, .sh (.sli ([.int .i64]))), (7, .sh (.sli ([.cst 0]))), (32, .sh (.one (.int .i64)))] 5 (.sq .reg (.sq (.cd .skip .ex) (.sq (.bl (.sq .reg (.sq (.drw [(0, 0), (1, 0), (2, 0), (3, 0), (4, 0), (5, 0), (6, 1), (7, 0), (8, 0), (9, 0), (10, 2), (11, 1), (12, 0)]) (.sq (.drw [(0, 0), (1, 0), (2, 0), (3, 1), (4, 0), (5, 0), (6, 0), (7, 0), (8, 0), (9, 0), (10, 0), (11, 0), (12, 0), (13, 0), (14, 0)]) (.cd (.drw [(0, 0), (1, 0), (2, 0), (5, 0), (6, 0), (7, 0), (3, 2), (4, 1), (8, 2), (9, 1), (10, 1), (11, 1)]) .dead))))) .reg)))))) (.sj [] (.sq (.drw [(0, 0), (1, 0), (2, 0), (3, 0), (4, 0), (5, 0), (6, 0), (7, 0), (8, 0), (9, 0), (10, 0), (11, 0), (14, 0), (12, 1), (13, 0)]) (.bl (.lp [(86, .sh (.one (.int .i64)))] 5 (.sq .reg (.sq (.cd .skip .ex) (.sq (.bl (.sq .reg (.sq .reg .reg))) .reg)))))) (.sq .reg (.bl (.lp [(106, .sh (.one (.int .i64)))] 5 (.sq .reg (.sq (.cd .skip .ex) (.sj [] (.bl (.sq .reg (.sq .reg (.sq .reg (.cd .reg .skip))))) .reg)))))))))))
theorem q92 : AllN 3 fun l => ∀ m t s d k, R.denF i92 a92 (bodyOf Tryz.f92) Tryz.f92.results.toList e92.ps e92.rs l ⟨m, t, s, d⟩ k = wrapF 3 0 sf92 l ⟨m, t, s, d⟩ k := by
  intro x0 x1 x2 m t s d k
  kernel_rfl
theorem ok92 : FunOK Tryz.prog 92 e92 := fun_ok facts mixed (I := i92) (FnsOK.cons ok14 (FnsOK.cons ok16 (FnsOK.cons ok105 (FnsOK.cons ok121 (FnsOK.cons ok126 (FnsOK.cons ok127 (FnsOK.cons ok128 FnsOK.nil))))))) Tryz.func92 (by kernel_rfl) (by kernel_rfl) (by kernel_rfl) (an := a92) (by kernel_rfl) (by kernel_rfl) q92
def sf182 : FT 3 1 := fun a1 a2 a3 m t s d k=>
 join (loopN 4 (fun (_ _ _ _ : Nat) => false) (fun L5 (m4 t4 s4 d4 : Nat)=>
 okB (ifB (beq a2 0) false true)<|
 okB (ifB (beq a2 0) false true)<|
 okB (ifB (beq a1 0) false true)<|
 okB (ifB (beq a2 0) false true)<|
 force (xor (land (shiftRight m4 a2) (mask 7)) (xor (xor (xor (land (shiftRight m4 a2) 18446744073709551615) 18446744073709551616) (shiftLeft (land (shiftRight m4 (add a2 128)) 18446744073709551615) 128)) (shiftLeft (mod (add a3 (land (shiftRight m4 (add a1 192)) 18446744073709551615)) 18446744073709551616) 320))) fun v7=>
 force (xor m4 (xor (shiftLeft v7 a2) (mod (add v7 a2) 2305843009213693951))) fun m8=>
 k 0 m8 t4 s4 d4)) fun J6=>
 join (loopN 4 (fun (_ _ _ _ : Nat) => false) (fun L10 (m9 t9 s9 d9 : Nat)=>
 okB (ifB (beq a1 0) false true)<|
 okB (ifB (beq a2 0) false true)<|
 force (xor (land (shiftRight m9 (add a2 320)) 18446744073709551615) (mod (add a3 (land (shiftRight m9 (add a1 128)) 18446744073709551615)) 18446744073709551616)) fun v12=>
 force (xor m9 (xor (shiftLeft v12 (add a2 320)) (mod (add v12 (add a2 320)) 2305843009213693951))) fun m13=>
 k 2 m13 t9 s9 d9)) fun J11=>
 join (loopN 4 (fun (_ _ _ _ : Nat) => false) (fun L15 (m14 t14 s14 d14 : Nat)=>
 k 0 m14 t14 s14 d14)) fun J16=>
 join (fun (m17 t17 s17 d17 : Nat)=>
 okB (ifB (beq a2 0) false true)<|
 okB (ifB (beq a2 0) false true)<|
 force (xor (land (shiftRight m17 (add a2 128)) 18446744073709551615) (mod (add (land (shiftRight m17 (add a2 128)) 18446744073709551615) 1) 18446744073709551616)) fun v19=>
 force (xor m17 (xor (shiftLeft v19 (add a2 128)) (mod (add v19 (add a2 128)) 2305843009213693951))) fun m20=>
 okB (ifB (beq a1 0) false true)<|
 okB (ifB (beq a2 0) false true)<|
 okB (ble (succ (mod (sub (add (land (shiftRight m20 (add a2 128)) 18446744073709551615) 18446744073709551616) 1) 18446744073709551616)) 64)<|
 okB (ifB (beq a2 0) false true)<|
 force (xor (land (shiftRight m20 (add a2 320)) 18446744073709551615) (mod (add a3 (mod (shiftLeft (land (shiftRight m20 (add a1 64)) 18446744073709551615) (mod (sub (add (land (shiftRight m20 (add a2 128)) 18446744073709551615) 18446744073709551616) 1) 18446744073709551616)) 18446744073709551616)) 18446744073709551616)) fun v21=>
 force (xor m20 (xor (shiftLeft v21 (add a2 320)) (mod (add v21 (add a2 320)) 2305843009213693951))) fun m22=>
 k 1 m22 t17 s17 d17) fun J18=>
 okB (ifB (beq a2 0) false true)<|
 ifB (ble (succ a3) (land (shiftRight m (add a2 320)) 18446744073709551615)) (
 J16 m t s d)<|
 okB (ifB (beq a2 0) false true)<|
 okB (ifB (beq (land (shiftRight m (add a2 64)) 18446744073709551615) 3) (ifB (beq a2 0) false true) true)<|
 okB (ifB (beq (land (shiftRight m (add a2 64)) 18446744073709551615) 3) (beq (land (shiftRight m (add a2 64)) 18446744073709551615) 3) true)<|
 ifB (ifB (beq (land (shiftRight m (add a2 64)) 18446744073709551615) 3) (ble (succ a3) (land (shiftRight m (add a2 384)) 18446744073709551615)) false) (
 J11 m t s d)<|
 okB (ifB (beq a2 0) false true)<|
 okB (ifB (beq (land (shiftRight m (add a2 64)) 18446744073709551615) 2) (ifB (beq a2 0) false true) true)<|
 okB (ifB (beq (land (shiftRight m (add a2 64)) 18446744073709551615) 2) (ifB (beq a1 0) false true) true)<|
 okB (ifB (beq (land (shiftRight m (add a2 64)) 18446744073709551615) 2) (beq (land (shiftRight m (add a2 64)) 18446744073709551615) 2) true)<|
 ifB (ifB (beq (land (shiftRight m (add a2 64)) 18446744073709551615) 2) (ifB (ble (succ (xor (land (shiftRight m (add a2 128)) 18446744073709551615) 9223372036854775808)) (xor (land (shiftRight m a1) 18446744073709551615) 9223372036854775808)) false true) false) (
 J6 m t s d)<|
 okB (ifB (beq a2 0) false true)<|
 ifB (ifB (beq (land (shiftRight m (add a2 64)) 18446744073709551615) 2) false true) (
 okB (ifB (beq a2 0) false true)<|
 okB (ifB (beq a2 0) false true)<|
 force (xor (land (shiftRight m a2) (mask 7)) (xor (land (shiftRight m a2) 18446744073709551615) 36893488147419103232)) fun v23=>
 force (xor m (xor (shiftLeft v23 a2) (mod (add v23 a2) 2305843009213693951))) fun m24=>
 J18 m24 t s d)<|
 J18 m t s d
def e182 : FunE := ⟨[.ptr (lay 198) false false, .ptr (lay 195) false false, .one (.int .u64)], [.one (.int .i64)], wrapF 3 1 sf182⟩
def i182 : FI := ⟨106, [], [6, 7, 14, 20, 28, 34, 45, 58], [], []⟩
def a182 : An := (.sq .reg (.sc (.lb 2 [] 4 (.sq .skip (.sq (.drw [(0, 0), (1, 0), (2, 0), (3, 0), (4, 0), (5, 0), (6, 0), (7, 0), (8, 0), (9, 0), (10, 0), (11, 0), (12, 0), (13, 0), (14, 0), (15, 0), (16, 0), (17, 1)]) (.sq (.sq .reg .ret) .dead))) (.lb 1 [] 4 (.sq .skip (.sq .reg (.sq (.sq .reg .ret) .dead))) (.lb 0 [] 4 (.sq .skip (.sq .reg .ret)) (.sj [] (.bl (.sq .reg (.cd .go (.sq .reg (.cd .go (.sq (.drw [(0, 0), (1, 0), (2, 0), (3, 0), (4, 0), (5, 0), (6, 0), (7, 0), (8, 0), (9, 0), (10, 0), (11, 0), (12, 0), (13, 0), (14, 0), (15, 0), (16, 0)]) (.cd .go (.sq .reg (.cd .reg .skip))))))))) (.sq .reg (.sq (.drw [(0, 0), (1, 0), (2, 0), (3, 0), (4, 0), (5, 0), (6, 0), (7, 0), (8, 0), (9, 0), (10, 0), (11, 0), (12, 0), (13, 0), (14, 0), (15, 1)]) (.sq (.sq .reg .ret) .dead)))))))))
theorem q182 : AllN 3 fun l => ∀ m t s d k, R.denF i182 a182 (bodyOf Tryz.f182) Tryz.f182.results.toList e182.ps e182.rs l ⟨m, t, s, d⟩ k = wrapF 3 1 sf182 l ⟨m, t, s, d⟩ k := by
  intro x0 x1 x2 m t s d k
  kernel_rfl
theorem ok182 : FunOK Tryz.prog 182 e182 := fun_ok facts mixed (I := i182) FnsOK.nil Tryz.func182 (by kernel_rfl) (by kernel_rfl) (by kernel_rfl) (an := a182) (by kernel_rfl) (by kernel_rfl) q182
def sf129 : FT 2 1 := fun a1 a2 m t s d k=>
 ifB (ble 4611686018427387905 a2) (
 false)<|
 join (fun (p3 m4 t4 s4 d4 : Nat)=>
 k p3 m4 t4 s4 d4) fun J5=>
 loopN 37 (fun (_ _ _ _ _ _ : Nat) => false) (fun L9 (p6 p7 m8 t8 s8 d8 : Nat)=>
 ifB (ble (succ (xor p7 9223372036854775808)) 9223372036854775841) (
 join (fun (p10 m11 t11 s11 d11 : Nat)=>
 force (mod (add p7 1) 18446744073709551616) fun v13=>
 L9 p10 v13 m11 t11 s11 d11) fun J12=>
 okB (ifB (beq a1 0) false true)<|
 okB (ble (succ p7) 33)<|
 force (add (add a1 256) (mul p7 448)) fun v14=>
 ifB (beq (land (shiftRight m8 (add v14 64)) 18446744073709551615) 0) (
 J12 p6 m8 t8 s8 d8)<|
 sf182 a1 v14 a2 m8 t8 s8 d8 fun r15 m16 t16 s16 d16=>
 ifB (ble 9223372036854775809 (xor r15 9223372036854775808)) (
 force (xor p7 (shiftLeft r15 64)) fun v17=>
 join (fun (r18 m19 t19 s19 d19 : Nat)=>
 J12 r18 m19 t19 s19 d19) fun J20=>
 appR 2 p6 1 v17 m16 t16 s16 d16 J20)<|
 J12 p6 m16 t16 s16 d16)<|
 J5 p6 m8 t8 s8 d8) 0 0 m t s d
def e129 : FunE := ⟨[.ptr (lay 198) false false, .one (.int .u64)], [.sli (lay 26)], wrapF 2 1 sf129⟩
def i129 : FI := ⟨38, [34], [4, 5, 6, 7, 8, 10, 11, 12, 23, 29], [(182, e182)], []⟩
def a129 : An := (.sq .reg (.sq (.sq .reg (.cd .dead .skip)) (.sq .reg (.sj [(5, .sh (.sli (lay 26)))] (.sq .reg (.bl (.lp [(5, .sh (.sli (lay 26))), (11, .sh (.one (.int .i64)))] 37 (.sq .reg (.sq (.cd .skip .ex) (.sj [(5, .sh (.sli (lay 26)))] (.bl (.sq .reg (.sq .reg (.sq (.sq .reg (.cd .ex .skip)) (.sq .reg (.sq .reg (.cd .reg .skip))))))) .reg)))))) (.sq .reg .ret)))))
theorem q129 : AllN 2 fun l => ∀ m t s d k, R.denF i129 a129 (bodyOf Tryz.f129) Tryz.f129.results.toList e129.ps e129.rs l ⟨m, t, s, d⟩ k = wrapF 2 1 sf129 l ⟨m, t, s, d⟩ k := by
  intro x0 x1 m t s d k
  kernel_rfl
theorem ok129 : FunOK Tryz.prog 129 e129 := fun_ok facts mixed (I := i129) (FnsOK.cons ok182 FnsOK.nil) Tryz.func129 (by kernel_rfl) (by kernel_rfl) (by kernel_rfl) (an := a129) (by kernel_rfl) (by kernel_rfl) q129
def sf189 : FT 3 1 := fun a1 a2 a3 m t s d k=>
 force a1 fun v4=>
 okB (ifB (beq (land (shiftRight m a2) 18446744073709551615) 0) false true)<|
 force (ifB (ifB (ble (succ (land (shiftRight m a3) 18446744073709551615)) (mod (add (land (shiftRight v4 192) 18446744073709551615) (land (shiftRight m (add (land (shiftRight m a2) 18446744073709551615) 64)) 18446744073709551615)) 18446744073709551616)) false true) 1 0) fun v5=>
 k v5 m t s d
def e189 : FunE := ⟨[.agg (lay 179), .ptr ([.ptr 183]) false true, .ptr ([.int .u64]) false true], [.one .bool], wrapF 3 1 sf189⟩
def i189 : FI := ⟨14, [3], [3, 4], [], []⟩
def a189 : An := (.sq .reg (.sq (.drw [(0, 0), (1, 0), (2, 0), (3, 0), (4, 0), (5, 0), (6, 0), (7, 0), (8, 0), (9, 0)]) .ret))
theorem q189 : AllN 3 fun l => ∀ m t s d k, R.denF i189 a189 (bodyOf Tryz.f189) Tryz.f189.results.toList e189.ps e189.rs l ⟨m, t, s, d⟩ k = wrapF 3 1 sf189 l ⟨m, t, s, d⟩ k := by
  intro x0 x1 x2 m t s d k
  kernel_rfl
theorem ok189 : FunOK Tryz.prog 189 e189 := fun_ok facts mixed (I := i189) FnsOK.nil Tryz.func189 (by kernel_rfl) (by kernel_rfl) (by kernel_rfl) (an := a189) (by kernel_rfl) (by kernel_rfl) q189
end
end Go.Proofs.YtaekfgbfpfecdaaGreat.VM
