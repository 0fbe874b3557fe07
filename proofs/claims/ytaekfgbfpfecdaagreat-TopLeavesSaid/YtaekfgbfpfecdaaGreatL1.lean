/- Functions of the program, printed: L1; no conditions. -/
import Derived.Test.YtaekfgbfpfecdaaGreatL0
namespace Go.Proofs.YtaekfgbfpfecdaaGreat.VM
open Go R
open Nat (land shiftRight beq add xor shiftLeft ble succ mod mul sub div lor pow)
set_option linter.unusedVariables false
set_option maxRecDepth 1000000
noncomputable def sf314 : FT 5 0 := fun a1 a2 a3 a4 a5 m t s d k =>
force (ifB true 1 0) fun v15 =>
force (ifB true 1 0) fun v16 =>
loopN 4 (fun (_ _ _ _ _ _ _ _ _ : Nat) => false) (fun L12 (p6 p7 p8 p9 p10 m11 t11 s11 d11 : Nat) =>
force (mod (sub (add p7 18446744073709551616) p6) 18446744073709551616) fun v13 =>
ifB (ifB (ble 9223372036854775821 (xor v13 9223372036854775808)) false true) (
sf324 a1 p6 p7 a5 m11 t11 s11 d11 fun m14 t14 s14 d14 =>
k m14 t14 s14 d14) <|
false) a2 a3 a4 v15 v16 m t s d
noncomputable def e314 : FunE := ⟨[.sli (lay 368), .one (.int .i64), .one (.int .i64), .one (.int .i64), .one .fn], [], wrapF 5 0 sf314⟩
noncomputable def i314 : FI := ⟨148, [], [1, 2, 3, 10, 11, 12, 13, 14, 15, 16, 17, 18, 19, 20, 25, 32, 39, 47, 56, 69, 72, 75, 80, 83, 97, 105, 125], [(324, e324)], []⟩
def a314 : An := (.sq .reg (.sq .reg (.bl (.lp [(1, .sh (.one (.int .i64))), (2, .sh (.one (.int .i64))), (3, .sh (.one (.int .i64))), (10, .sh (.one .bool)), (11, .sh (.one .bool))] 4 (.bl (.sq .reg (.sq (.sq .reg (.cd (.sq .reg .ret) .dead)) .dead)))))))
theorem q314 : AllN 5 fun l => ∀ m t s d k, R.denF i314 a314 (bodyOf Tryz.f314) Tryz.f314.results.toList e314.ps e314.rs l ⟨m, t, s, d⟩ k = wrapF 5 0 sf314 l ⟨m, t, s, d⟩ k := by
  intro x0 x1 x2 x3 x4 m t s d k
  kernel_rfl
theorem ok314 : FunOK Tryz.prog 314 e314 := fun_ok facts mixed (I := i314) (FnsOK.cons ok324 FnsOK.nil) Tryz.func314 (by kernel_rfl) (by kernel_rfl) (by kernel_rfl) (an := a314) (by kernel_rfl) (by kernel_rfl) q314
noncomputable def sf288 : FT 2 0 := fun a1 a2 m t s d k =>
force (land (shiftRight a1 28) 131071) fun v3 =>
sf254 v3 m t s d fun r4 m5 t5 s5 d5 =>
sf314 a1 0 v3 r4 a2 m5 t5 s5 d5 fun m6 t6 s6 d6 =>
k m6 t6 s6 d6
noncomputable def e288 : FunE := ⟨[.sli (lay 368), .one .fn], [], wrapF 2 0 sf288⟩
noncomputable def i288 : FI := ⟨14, [], [4], [(254, e254), (314, e314)], []⟩
def a288 : An := (.sq .reg .reg)
theorem q288 : AllN 2 fun l => ∀ m t s d k, R.denF i288 a288 (bodyOf Tryz.f288) Tryz.f288.results.toList e288.ps e288.rs l ⟨m, t, s, d⟩ k = wrapF 2 0 sf288 l ⟨m, t, s, d⟩ k := by
  intro x0 x1 m t s d k
  kernel_rfl
theorem ok288 : FunOK Tryz.prog 288 e288 := fun_ok facts mixed (I := i288) (FnsOK.cons ok254 (FnsOK.cons ok314 FnsOK.nil)) Tryz.func288 (by kernel_rfl) (by kernel_rfl) (by kernel_rfl) (an := a288) (by kernel_rfl) (by kernel_rfl) q288
noncomputable def sf242 : FT 1 1 := fun a1 m t s d k =>
okB (ifB (beq a1 0) false true) <|
force (land (shiftRight m a1) 18446744073709551615) fun v2 =>
sf287 v2 m t s d fun r3 m4 t4 s4 d4 =>
sf288 r3 290 m4 t4 s4 d4 fun m5 t5 s5 d5 =>
k r3 m5 t5 s5 d5
noncomputable def e242 : FunE := ⟨[.ptr (lay 177) false false], [.sli (lay 368)], wrapF 1 1 sf242⟩
noncomputable def i242 : FI := ⟨12, [], [2, 3], [(287, e287), (288, e288)], []⟩
def a242 : An := (.sq .reg (.sq .reg (.sq .reg (.sq .reg .ret))))
theorem q242 : AllN 1 fun l => ∀ m t s d k, R.denF i242 a242 (bodyOf Tryz.f242) Tryz.f242.results.toList e242.ps e242.rs l ⟨m, t, s, d⟩ k = wrapF 1 1 sf242 l ⟨m, t, s, d⟩ k := by
  intro x0 m t s d k
  kernel_rfl
theorem ok242 : FunOK Tryz.prog 242 e242 := fun_ok facts mixed (I := i242) (FnsOK.cons ok287 (FnsOK.cons ok288 FnsOK.nil)) Tryz.func242 (by kernel_rfl) (by kernel_rfl) (by kernel_rfl) (an := a242) (by kernel_rfl) (by kernel_rfl) q242
noncomputable def sf282 : FT 3 1 := fun a1 a2 a3 m t s d k =>
okB (ifB (ble a2 a3) (ifB (ble a3 (land (shiftRight a1 28) 131071)) (ble (land (shiftRight a1 28) 131071) (land (shiftRight a1 45) 131071)) false) false) <|
ifB (beq a2 a3) (
false) <|
force (land (shiftRight a1 28) 131071) fun v4 =>
okB (ifB (ble 0 a2) (ble a2 (land (shiftRight a1 45) 131071)) false) <|
okB (ifB (ble a3 (land (shiftRight a1 28) 131071)) (ble (land (shiftRight a1 28) 131071) (land (shiftRight a1 45) 131071)) false) <|
okB (beq (land (shiftRight d (shiftRight (land (ifB (beq (land a1 268435455) 0) a1 (ifB (beq (add (sub (land (shiftRight a1 45) 131071) a3) (shiftRight a1 62)) 0) 9223372036854775808 (add (add (land a1 268435455) (mul a3 384)) (shiftLeft (add (sub (land (shiftRight a1 28) 131071) a3) (shiftLeft (add (sub (land (shiftRight a1 45) 131071) a3) (shiftLeft (shiftRight a1 62) 17)) 17)) 28)))) 268435455) 6)) (sub (shiftLeft 1 (mul (land (shiftRight (ifB (beq (land a1 268435455) 0) a1 (ifB (beq (add (sub (land (shiftRight a1 45) 131071) a3) (shiftRight a1 62)) 0) 9223372036854775808 (add (add (land a1 268435455) (mul a3 384)) (shiftLeft (add (sub (land (shiftRight a1 28) 131071) a3) (shiftLeft (add (sub (land (shiftRight a1 45) 131071) a3) (shiftLeft (shiftRight a1 62) 17)) 17)) 28)))) 28) 131071) 6)) 1)) 0) <|
join (fun (r5 m6 t6 s6 d6 : Nat) =>
okB (ifB (ble (land (shiftRight r5 28) 131071) v4) (ble v4 (land (shiftRight r5 45) 131071)) false) <|
join (fun (m8 t8 s8 d8 : Nat) =>
k r5 m8 t8 s8 d8) fun J9 =>
clrR (ifB (beq (land r5 268435455) 0) r5 (ifB (beq (add (sub (land (shiftRight r5 45) 131071) (land (shiftRight r5 28) 131071)) (shiftRight r5 62)) 0) 9223372036854775808 (add (add (land r5 268435455) (mul (land (shiftRight r5 28) 131071) 384)) (shiftLeft (add (sub v4 (land (shiftRight r5 28) 131071)) (shiftLeft (add (sub (land (shiftRight r5 45) 131071) (land (shiftRight r5 28) 131071)) (shiftLeft (shiftRight r5 62) 17)) 17)) 28)))) 6 m6 t6 s6 d6 J9) fun J7 =>
appR 6 (ifB (beq (land a1 268435455) 0) a1 (ifB (beq (add (sub (land (shiftRight a1 45) 131071) 0) (shiftRight a1 62)) 0) 9223372036854775808 (add (land a1 268435455) (shiftLeft (add (sub a2 0) (shiftLeft (add (sub (land (shiftRight a1 45) 131071) 0) (shiftLeft (shiftRight a1 62) 17)) 17)) 28)))) (land (shiftRight (ifB (beq (land a1 268435455) 0) a1 (ifB (beq (add (sub (land (shiftRight a1 45) 131071) a3) (shiftRight a1 62)) 0) 9223372036854775808 (add (add (land a1 268435455) (mul a3 384)) (shiftLeft (add (sub (land (shiftRight a1 28) 131071) a3) (shiftLeft (add (sub (land (shiftRight a1 45) 131071) a3) (shiftLeft (shiftRight a1 62) 17)) 17)) 28)))) 28) 131071) (land (shiftRight m (land (ifB (beq (land a1 268435455) 0) a1 (ifB (beq (add (sub (land (shiftRight a1 45) 131071) a3) (shiftRight a1 62)) 0) 9223372036854775808 (add (add (land a1 268435455) (mul a3 384)) (shiftLeft (add (sub (land (shiftRight a1 28) 131071) a3) (shiftLeft (add (sub (land (shiftRight a1 45) 131071) a3) (shiftLeft (shiftRight a1 62) 17)) 17)) 28)))) 268435455)) (mask (mul (land (shiftRight (ifB (beq (land a1 268435455) 0) a1 (ifB (beq (add (sub (land (shiftRight a1 45) 131071) a3) (shiftRight a1 62)) 0) 9223372036854775808 (add (add (land a1 268435455) (mul a3 384)) (shiftLeft (add (sub (land (shiftRight a1 28) 131071) a3) (shiftLeft (add (sub (land (shiftRight a1 45) 131071) a3) (shiftLeft (shiftRight a1 62) 17)) 17)) 28)))) 28) 131071) 6))) m t s d J7
noncomputable def e282 : FunE := ⟨[.sli (lay 368), .one (.int .i64), .one (.int .i64)], [.sli (lay 368)], wrapF 3 1 sf282⟩
noncomputable def i282 : FI := ⟨33, [], [0, 6, 7, 16], [], []⟩
def a282 : An := (.sq .reg (.sq .reg (.sq (.sq .reg (.cd .dead .skip)) (.sq .reg (.sq (.drw [(0, 0), (1, 0), (2, 0), (3, 0), (4, 0), (5, 0), (6, 1), (7, 1)]) (.sq .reg (.sq .reg .ret)))))))
theorem q282 : AllN 3 fun l => ∀ m t s d k, R.denF i282 a282 (bodyOf Tryz.f282) Tryz.f282.results.toList e282.ps e282.rs l ⟨m, t, s, d⟩ k = wrapF 3 1 sf282 l ⟨m, t, s, d⟩ k := by
  intro x0 x1 x2 m t s d k
  kernel_rfl
theorem ok282 : FunOK Tryz.prog 282 e282 := fun_ok facts mixed (I := i282) FnsOK.nil Tryz.func282 (by kernel_rfl) (by kernel_rfl) (by kernel_rfl) (an := a282) (by kernel_rfl) (by kernel_rfl) q282
noncomputable def sf236 : FT 3 1 := fun a1 a2 a3 m t s d k =>
force a2 fun v4 =>
join (loopN 4 (fun (_ _ _ _ _ : Nat) => false) (fun L7 (p5 m6 t6 s6 d6 : Nat) =>
okB (ifB (beq a1 0) false true) <|
force (xor p5 (shiftLeft a3 320)) fun v9 =>
okB (beq (land (shiftRight m6 a1) 18446744073709551615) (land (shiftRight m6 a1) 18446744073709551615)) <|
join (fun (r10 m11 t11 s11 d11 : Nat) =>
okB (ifB (beq a1 0) false true) <|
force (xor (land (shiftRight m11 a1) 18446744073709551615) r10) fun v13 =>
force (xor m11 (xor (shiftLeft v13 a1) (mod (add v13 a1) 2305843009213693951))) fun m14 =>
sf242 a1 m14 t11 s11 d11 fun r15 m16 t16 s16 d16 =>
okB (ifB (beq a1 0) false true) <|
force (xor (land (shiftRight m16 a1) 18446744073709551615) r15) fun v17 =>
force (xor m16 (xor (shiftLeft v17 a1) (mod (add v17 a1) 2305843009213693951))) fun m18 =>
okB (ifB (beq a1 0) false true) <|
okB (ifB (beq a1 0) false true) <|
okB (ifB (beq a1 0) false true) <|
okB (ifB (ble 0 (ifB (ble (succ (xor (land (shiftRight (land (shiftRight m18 a1) 18446744073709551615) 28) 131071) 9223372036854775808)) (xor (land (shiftRight m18 (add a1 64)) 18446744073709551615) 9223372036854775808)) (land (shiftRight (land (shiftRight m18 a1) 18446744073709551615) 28) 131071) (land (shiftRight m18 (add a1 64)) 18446744073709551615))) (ble (ifB (ble (succ (xor (land (shiftRight (land (shiftRight m18 a1) 18446744073709551615) 28) 131071) 9223372036854775808)) (xor (land (shiftRight m18 (add a1 64)) 18446744073709551615) 9223372036854775808)) (land (shiftRight (land (shiftRight m18 a1) 18446744073709551615) 28) 131071) (land (shiftRight m18 (add a1 64)) 18446744073709551615)) (land (shiftRight (land (shiftRight m18 a1) 18446744073709551615) 45) 131071)) false) <|
okB (ifB (beq a1 0) false true) <|
force (xor (land (shiftRight m18 a1) 18446744073709551615) (ifB (beq (land (land (shiftRight m18 a1) 18446744073709551615) 268435455) 0) (land (shiftRight m18 a1) 18446744073709551615) (ifB (beq (add (sub (land (shiftRight (land (shiftRight m18 a1) 18446744073709551615) 45) 131071) 0) (shiftRight (land (shiftRight m18 a1) 18446744073709551615) 62)) 0) 9223372036854775808 (add (land (land (shiftRight m18 a1) 18446744073709551615) 268435455) (shiftLeft (add (sub (ifB (ble (succ (xor (land (shiftRight (land (shiftRight m18 a1) 18446744073709551615) 28) 131071) 9223372036854775808)) (xor (land (shiftRight m18 (add a1 64)) 18446744073709551615) 9223372036854775808)) (land (shiftRight (land (shiftRight m18 a1) 18446744073709551615) 28) 131071) (land (shiftRight m18 (add a1 64)) 18446744073709551615)) 0) (shiftLeft (add (sub (land (shiftRight (land (shiftRight m18 a1) 18446744073709551615) 45) 131071) 0) (shiftLeft (shiftRight (land (shiftRight m18 a1) 18446744073709551615) 62) 17)) 17)) 28))))) fun v19 =>
force (xor m18 (xor (shiftLeft v19 a1) (mod (add v19 a1) 2305843009213693951))) fun m20 =>
k 0 m20 t16 s16 d16) fun J12 =>
appR 6 (land (shiftRight m6 a1) 18446744073709551615) 1 v9 m6 t6 s6 d6 J12)) fun J8 =>
force v4 fun v21 =>
sf80 v21 m t s d fun r22 m23 t23 s23 d23 =>
okB (ifB (ifB (beq r22 1) false true) true (ifB (ifB (beq r22 1) false true) false true)) <|
okB (ifB (ifB (ifB (beq r22 1) false true) true (ble (succ (xor a3 9223372036854775808)) 9223372036854775809)) true (ifB (ifB (ifB (beq r22 1) false true) true (ble (succ (xor a3 9223372036854775808)) 9223372036854775809)) false true)) <|
ifB (ifB (ifB (ifB (beq r22 1) false true) true (ble (succ (xor a3 9223372036854775808)) 9223372036854775809)) true (ble 9223372036854775909 (xor a3 9223372036854775808))) (
false) <|
okB (ifB (beq a1 0) false true) <|
ifB (beq 0 (land (shiftRight (land (shiftRight m23 a1) 18446744073709551615) 28) 131071)) (
J8 v4 m23 t23 s23 d23) <|
okB (ifB (beq a1 0) false true) <|
okB (ble 1 (land (shiftRight (land (shiftRight m23 a1) 18446744073709551615) 28) 131071)) <|
okB (beq (land (shiftRight d23 (shiftRight (add (land (land (shiftRight m23 a1) 18446744073709551615) 268435455) 0) 6)) 1) 0) <|
ifB (ifB (beq (land (shiftRight m23 (add (land (land (shiftRight m23 a1) 18446744073709551615) 268435455) 0)) 18446744073709551615) (land (shiftRight v4 0) 18446744073709551615)) false true) (
false) <|
okB (ifB (beq a1 0) false true) <|
okB (ble 1 (land (shiftRight (land (shiftRight m23 a1) 18446744073709551615) 28) 131071)) <|
okB (beq (land (shiftRight d23 (shiftRight (add (land (land (shiftRight m23 a1) 18446744073709551615) 268435455) 0) 6)) 31) 0) <|
force v4 fun v24 =>
force (land (shiftRight m23 (add (land (land (shiftRight m23 a1) 18446744073709551615) 268435455) 0)) (mask 5)) fun v25 =>
sf81 v24 v25 m23 t23 s23 d23 fun r26 m27 t27 s27 d27 =>
ifB (ifB (beq r26 1) false true) (
false) <|
okB (ifB (beq a1 0) false true) <|
force (land (shiftRight m27 a1) 18446744073709551615) fun v28 =>
force 1 fun v29 =>
sf282 v28 0 v29 m27 t27 s27 d27 fun r30 m31 t31 s31 d31 =>
okB (ifB (beq a1 0) false true) <|
force (xor (land (shiftRight m31 a1) 18446744073709551615) r30) fun v32 =>
force (xor m31 (xor (shiftLeft v32 a1) (mod (add v32 a1) 2305843009213693951))) fun m33 =>
okB (ifB (beq a1 0) false true) <|
force (xor v4 (shiftLeft a3 320)) fun v34 =>
okB (beq (land (shiftRight m33 a1) 18446744073709551615) (land (shiftRight m33 a1) 18446744073709551615)) <|
join (fun (r35 m36 t36 s36 d36 : Nat) =>
okB (ifB (beq a1 0) false true) <|
force (xor (land (shiftRight m36 a1) 18446744073709551615) r35) fun v38 =>
force (xor m36 (xor (shiftLeft v38 a1) (mod (add v38 a1) 2305843009213693951))) fun m39 =>
sf242 a1 m39 t36 s36 d36 fun r40 m41 t41 s41 d41 =>
okB (ifB (beq a1 0) false true) <|
force (xor (land (shiftRight m41 a1) 18446744073709551615) r40) fun v42 =>
force (xor m41 (xor (shiftLeft v42 a1) (mod (add v42 a1) 2305843009213693951))) fun m43 =>
okB (ifB (beq a1 0) false true) <|
okB (ifB (beq a1 0) false true) <|
okB (ifB (beq a1 0) false true) <|
okB (ifB (ble 0 (ifB (ble (succ (xor (land (shiftRight (land (shiftRight m43 a1) 18446744073709551615) 28) 131071) 9223372036854775808)) (xor (land (shiftRight m43 (add a1 64)) 18446744073709551615) 9223372036854775808)) (land (shiftRight (land (shiftRight m43 a1) 18446744073709551615) 28) 131071) (land (shiftRight m43 (add a1 64)) 18446744073709551615))) (ble (ifB (ble (succ (xor (land (shiftRight (land (shiftRight m43 a1) 18446744073709551615) 28) 131071) 9223372036854775808)) (xor (land (shiftRight m43 (add a1 64)) 18446744073709551615) 9223372036854775808)) (land (shiftRight (land (shiftRight m43 a1) 18446744073709551615) 28) 131071) (land (shiftRight m43 (add a1 64)) 18446744073709551615)) (land (shiftRight (land (shiftRight m43 a1) 18446744073709551615) 45) 131071)) false) <|
okB (ifB (beq a1 0) false true) <|
force (xor (land (shiftRight m43 a1) 18446744073709551615) (ifB (beq (land (land (shiftRight m43 a1) 18446744073709551615) 268435455) 0) (land (shiftRight m43 a1) 18446744073709551615) (ifB (beq (add (sub (land (shiftRight (land (shiftRight m43 a1) 18446744073709551615) 45) 131071) 0) (shiftRight (land (shiftRight m43 a1) 18446744073709551615) 62)) 0) 9223372036854775808 (add (land (land (shiftRight m43 a1) 18446744073709551615) 268435455) (shiftLeft (add (sub (ifB (ble (succ (xor (land (shiftRight (land (shiftRight m43 a1) 18446744073709551615) 28) 131071) 9223372036854775808)) (xor (land (shiftRight m43 (add a1 64)) 18446744073709551615) 9223372036854775808)) (land (shiftRight (land (shiftRight m43 a1) 18446744073709551615) 28) 131071) (land (shiftRight m43 (add a1 64)) 18446744073709551615)) 0) (shiftLeft (add (sub (land (shiftRight (land (shiftRight m43 a1) 18446744073709551615) 45) 131071) 0) (shiftLeft (shiftRight (land (shiftRight m43 a1) 18446744073709551615) 62) 17)) 17)) 28))))) fun v44 =>
force (xor m43 (xor (shiftLeft v44 a1) (mod (add v44 a1) 2305843009213693951))) fun m45 =>
k 0 m45 t41 s41 d41) fun J37 =>
appR 6 (land (shiftRight m33 a1) 18446744073709551615) 1 v34 m33 t31 s31 d31 J37
noncomputable def e236 : FunE := ⟨[.ptr (lay 177) false false, .agg (lay 53), .one (.int .i64)], [.one (.int .i64)], wrapF 3 1 sf236⟩
noncomputable def i236 : FI := ⟨97, [4, 70], [4, 6, 7, 11, 15, 18, 25, 37, 50], [(80, e80), (81, e81), (242, e242), (282, e282)], []⟩
def a236 : An := (.sq .reg (.sc (.lb 0 [(4, .loc (lay 53))] 4 (.sq .skip (.sq (.drw [(0, 0), (1, 0), (2, 0), (3, 0), (4, 0), (5, 0), (6, 0), (7, 0), (8, 2), (9, 1), (10, 0), (11, 0), (12, 1)]) (.sq .reg (.sq (.drw [(0, 0), (1, 0), (2, 0), (3, 0), (4, 0), (5, 0), (6, 0), (7, 0), (8, 0), (9, 0), (10, 0), (11, 0), (12, 0), (13, 0), (14, 0), (15, 0), (16, 0), (17, 0), (18, 1)]) (.sq .reg .ret))))) (.sq .reg (.sq (.sq .reg (.cd .dead .skip)) (.sq .skip (.sq (.sq .reg (.cd .go .skip)) (.sq (.sq (.drw [(0, 0), (1, 0), (2, 0), (3, 0), (4, 0), (5, 0), (6, 0), (7, 0), (8, 0), (9, 0), (10, 0), (11, 0)]) (.cd .dead .skip)) (.sq (.sq (.drw [(0, 0), (1, 0), (2, 0), (3, 0), (4, 0), (5, 0), (6, 0), (7, 0), (8, 0), (9, 1), (10, 0)]) (.cd .dead .skip)) (.sq .reg (.sq .skip (.sq (.drw [(0, 0), (1, 0), (2, 0), (3, 0), (4, 0), (5, 0), (6, 0), (7, 0), (8, 2), (9, 1), (10, 0), (11, 0), (12, 1)]) (.sq .reg (.sq (.drw [(0, 0), (1, 0), (2, 0), (3, 0), (4, 0), (5, 0), (6, 0), (7, 0), (8, 0), (9, 0), (10, 0), (11, 0), (12, 0), (13, 0), (14, 0), (15, 0), (16, 0), (17, 0), (18, 1)]) (.sq .reg .ret)))))))))))))))
theorem q236 : AllN 3 fun l => ∀ m t s d k, R.denF i236 a236 (bodyOf Tryz.f236) Tryz.f236.results.toList e236.ps e236.rs l ⟨m, t, s, d⟩ k = wrapF 3 1 sf236 l ⟨m, t, s, d⟩ k := by
  intro x0 x1 x2 m t s d k
  kernel_rfl
theorem ok236 : FunOK Tryz.prog 236 e236 := fun_ok facts mixed (I := i236) (FnsOK.cons ok80 (FnsOK.cons ok81 (FnsOK.cons ok242 (FnsOK.cons ok282 FnsOK.nil)))) Tryz.func236 (by kernel_rfl) (by kernel_rfl) (by kernel_rfl) (an := a236) (by kernel_rfl) (by kernel_rfl) q236
noncomputable def sf237 : FT 1 1 := fun a1 m t s d k =>
force (ifB (ble (succ (xor a1 9223372036854775808)) 9223372036854775809) 1 a1) fun v2 =>
sf254 v2 m t s d fun r3 m4 t4 s4 d4 =>
force (mod (mul 3 r3) 18446744073709551616) fun v5 =>
k v5 m4 t4 s4 d4
noncomputable def e237 : FunE := ⟨[.one (.int .i64)], [.one (.int .i64)], wrapF 1 1 sf237⟩
noncomputable def i237 : FI := ⟨8, [], [2], [(254, e254)], []⟩
def a237 : An := (.sq .reg (.sq .reg .ret))
theorem q237 : AllN 1 fun l => ∀ m t s d k, R.denF i237 a237 (bodyOf Tryz.f237) Tryz.f237.results.toList e237.ps e237.rs l ⟨m, t, s, d⟩ k = wrapF 1 1 sf237 l ⟨m, t, s, d⟩ k := by
  intro x0 m t s d k
  kernel_rfl
theorem ok237 : FunOK Tryz.prog 237 e237 := fun_ok facts mixed (I := i237) (FnsOK.cons ok254 FnsOK.nil) Tryz.func237 (by kernel_rfl) (by kernel_rfl) (by kernel_rfl) (an := a237) (by kernel_rfl) (by kernel_rfl) q237
noncomputable def sf164 : FT 2 0 := fun a1 a2 m t s d k =>
force a2 fun v3 =>
okB (ifB (beq a1 0) false true) <|
okB (ifB (beq a1 0) false true) <|
force (land (shiftRight m (add a1 960)) 18446744073709551615) fun v4 =>
sf17 v4 m t s d fun r5 m6 t6 s6 d6 =>
okB (beq v3 v3) <|
okB (beq (land (shiftRight m6 (add a1 1024)) 18446744073709551615) (land (shiftRight m (add a1 1024)) 18446744073709551615)) <|
force (land (shiftRight r5 28) 131071) fun v7 =>
sf237 v7 m6 t6 s6 d6 fun r8 m9 t9 s9 d9 =>
okB (beq v3 v3) <|
okB (beq (land (shiftRight m9 (add a1 1024)) 18446744073709551615) (land (shiftRight m (add a1 1024)) 18446744073709551615)) <|
force (land (shiftRight m (add a1 1024)) 18446744073709551615) fun v10 =>
force v3 fun v11 =>
sf236 v10 v11 r8 m9 t9 s9 d9 fun r12 m13 t13 s13 d13 =>
k m13 t13 s13 d13
noncomputable def e164 : FunE := ⟨[.ptr (lay 104) false false, .agg (lay 53)], [], wrapF 2 0 sf164⟩
noncomputable def i164 : FI := ⟨17, [3], [3], [(17, e17), (236, e236), (237, e237)], []⟩
def a164 : An := (.sq .reg (.drw [(0, 0), (1, 0), (2, 0), (3, 0), (4, 0), (5, 0), (6, 0), (7, 0), (8, 0), (9, 1), (10, 0), (11, 1), (12, 1)]))
theorem q164 : AllN 2 fun l => ∀ m t s d k, R.denF i164 a164 (bodyOf Tryz.f164) Tryz.f164.results.toList e164.ps e164.rs l ⟨m, t, s, d⟩ k = wrapF 2 0 sf164 l ⟨m, t, s, d⟩ k := by
  intro x0 x1 m t s d k
  kernel_rfl
theorem ok164 : FunOK Tryz.prog 164 e164 := fun_ok facts mixed (I := i164) (FnsOK.cons ok17 (FnsOK.cons ok236 (FnsOK.cons ok237 FnsOK.nil))) Tryz.func164 (by kernel_rfl) (by kernel_rfl) (by kernel_rfl) (an := a164) (by kernel_rfl) (by kernel_rfl) q164
noncomputable def sf238 : FT 1 1 := fun a1 m t s d k =>
okB (ifB (ifB (ble (succ (xor a1 9223372036854775808)) 9223372036854775809) false true) (ifB (ble (succ (xor a1 9223372036854775808)) 9223372036854775809) false true) true) <|
force (ifB (ifB (ifB (ble (succ (xor a1 9223372036854775808)) 9223372036854775809) false true) (ifB (ble 9223372036854775841 (xor a1 9223372036854775808)) false true) false) 1 0) fun v2 =>
k v2 m t s d
noncomputable def e238 : FunE := ⟨[.one (.int .i64)], [.one .bool], wrapF 1 1 sf238⟩
noncomputable def i238 : FI := ⟨9, [], [2, 5], [], []⟩
def a238 : An := (.sq .reg (.sq .reg .ret))
theorem q238 : AllN 1 fun l => ∀ m t s d k, R.denF i238 a238 (bodyOf Tryz.f238) Tryz.f238.results.toList e238.ps e238.rs l ⟨m, t, s, d⟩ k = wrapF 1 1 sf238 l ⟨m, t, s, d⟩ k := by
  intro x0 m t s d k
  kernel_rfl
theorem ok238 : FunOK Tryz.prog 238 e238 := fun_ok facts mixed (I := i238) FnsOK.nil Tryz.func238 (by kernel_rfl) (by kernel_rfl) (by kernel_rfl) (an := a238) (by kernel_rfl) (by kernel_rfl) q238
noncomputable def sf239 : FT 2 2 := fun a1 a2 m t s d k =>
sf238 a2 m t s d fun r3 m4 t4 s4 d4 =>
okB (ifB (ifB (ifB (beq r3 1) false true) false true) (ifB (beq a1 0) false true) true) <|
okB (ifB (ifB (ifB (beq r3 1) false true) false true) (ble (succ a2) 33) true) <|
okB (ifB (ifB (beq r3 1) false true) true (ifB (ifB (beq r3 1) false true) false true)) <|
ifB (ifB (ifB (beq r3 1) false true) true (beq (land (shiftRight m4 (add a1 (mul a2 320))) 18446744073709551615) 0)) (
force (ifB false 1 0) fun v5 =>
k 0 v5 m4 t4 s4 d4) <|
okB (ifB (beq a1 0) false true) <|
okB (ble (succ a2) 33) <|
force (add a1 (mul a2 320)) fun v6 =>
force (ifB true 1 0) fun v7 =>
k v6 v7 m4 t4 s4 d4
noncomputable def e239 : FunE := ⟨[.ptr (lay 172) false false, .one (.int .i64)], [.ptr (lay 171) false false, .one .bool], wrapF 2 2 sf239⟩
noncomputable def i239 : FI := ⟨24, [], [4, 5, 9, 18], [(238, e238)], []⟩
def a239 : An := (.sq .reg (.sq (.sq .reg (.cd (.sq .reg .ret) .skip)) (.sq .reg .ret)))
theorem q239 : AllN 2 fun l => ∀ m t s d k, R.denF i239 a239 (bodyOf Tryz.f239) Tryz.f239.results.toList e239.ps e239.rs l ⟨m, t, s, d⟩ k = wrapF 2 2 sf239 l ⟨m, t, s, d⟩ k := by
  intro x0 x1 m t s d k
  kernel_rfl
theorem ok239 : FunOK Tryz.prog 239 e239 := fun_ok facts mixed (I := i239) (FnsOK.cons ok238 FnsOK.nil) Tryz.func239 (by kernel_rfl) (by kernel_rfl) (by kernel_rfl) (an := a239) (by kernel_rfl) (by kernel_rfl) q239
noncomputable def sf165 : FT 5 1 := fun a1 a2 a3 a4 a5 m t s d k =>
sf238 a2 m t s d fun r6 m7 t7 s7 d7 =>
okB (ifB (ifB (beq r6 1) false true) true (ifB (ifB (beq r6 1) false true) false true)) <|
okB (ifB (ifB (ifB (beq r6 1) false true) true (ble 4611686018427387905 a4)) true (ifB (ifB (ifB (beq r6 1) false true) true (ble 4611686018427387905 a4)) false true)) <|
okB (ifB (ifB (ifB (ifB (beq r6 1) false true) true (ble 4611686018427387905 a4)) true (beq a5 0)) true (ifB (ifB (ifB (ifB (beq r6 1) false true) true (ble 4611686018427387905 a4)) true (beq a5 0)) false true)) <|
ifB (ifB (ifB (ifB (ifB (beq r6 1) false true) true (ble 4611686018427387905 a4)) true (beq a5 0)) true (ble 1000001 a5)) (
false) <|
sf239 a1 a2 m7 t7 s7 d7 fun r8 r9 m10 t10 s10 d10 =>
okB (ifB (beq r9 1) (ifB (beq r8 0) false true) true) <|
okB (ifB (beq r9 1) (beq r9 1) true) <|
ifB (ifB (beq r9 1) (ifB (ble (succ (land (shiftRight m10 (add r8 64)) 18446744073709551615)) a3) false true) false) (
false) <|
okB (ifB (beq a1 0) false true) <|
okB (ble (succ a2) 33) <|
force (xor (land (shiftRight m10 (add a1 (mul a2 320))) (mask 5)) (xor (xor (xor a2 (shiftLeft a3 64)) (shiftLeft a4 128)) (shiftLeft a5 192))) fun v11 =>
force (xor m10 (xor (shiftLeft v11 (add a1 (mul a2 320))) (mod (add v11 (add a1 (mul a2 320))) 2305843009213693951))) fun m12 =>
k 0 m12 t10 s10 d10
noncomputable def e165 : FunE := ⟨[.ptr (lay 172) false false, .one (.int .i64), .one (.int .u32), .one (.int .u64), .one (.int .u64)], [.one (.int .i64)], wrapF 5 1 sf165⟩
noncomputable def i165 : FI := ⟨53, [], [10, 11, 12, 16, 20, 24, 27, 28, 35, 42], [(238, e238), (239, e239)], []⟩
def a165 : An := (.sq .reg (.sq (.sq .reg (.cd .dead .skip)) (.sq (.sq .reg (.sq .reg (.cd .dead .skip))) (.sq .reg (.sq .reg .ret)))))
theorem q165 : AllN 5 fun l => ∀ m t s d k, R.denF i165 a165 (bodyOf Tryz.f165) Tryz.f165.results.toList e165.ps e165.rs l ⟨m, t, s, d⟩ k = wrapF 5 1 sf165 l ⟨m, t, s, d⟩ k := by
  intro x0 x1 x2 x3 x4 m t s d k
  kernel_rfl
theorem ok165 : FunOK Tryz.prog 165 e165 := fun_ok facts mixed (I := i165) (FnsOK.cons ok238 (FnsOK.cons ok239 FnsOK.nil)) Tryz.func165 (by kernel_rfl) (by kernel_rfl) (by kernel_rfl) (an := a165) (by kernel_rfl) (by kernel_rfl) q165
noncomputable def sf167 : FT 3 1 := fun a1 a2 a3 m t s d k =>
sf239 a1 a2 m t s d fun r4 r5 m6 t6 s6 d6 =>
okB (ifB (ifB (ifB (beq r5 1) false true) false true) (ifB (beq r4 0) false true) true) <|
okB (ifB (ifB (beq r5 1) false true) true (ifB (ifB (beq r5 1) false true) false true)) <|
ifB (ifB (ifB (beq r5 1) false true) true (ifB (ble (succ (land (shiftRight m6 (add r4 64)) 18446744073709551615)) a3) false true)) (
force (ifB false 1 0) fun v7 =>
k v7 m6 t6 s6 d6) <|
okB (ifB (beq r4 0) false true) <|
force (xor (land (shiftRight m6 r4) (mask 5)) 0) fun v8 =>
force (xor m6 (xor (shiftLeft v8 r4) (mod (add v8 r4) 2305843009213693951))) fun m9 =>
force (ifB true 1 0) fun v10 =>
k v10 m9 t6 s6 d6
noncomputable def e167 : FunE := ⟨[.ptr (lay 172) false false, .one (.int .i64), .one (.int .u32)], [.one .bool], wrapF 3 1 sf167⟩
noncomputable def i167 : FI := ⟨28, [], [6, 7, 8, 9, 17, 24], [(239, e239)], []⟩
def a167 : An := (.sq .reg (.sq .reg (.sq (.sq .reg (.cd (.sq .reg .ret) .skip)) (.sq .reg (.sq .reg .ret)))))
theorem q167 : AllN 3 fun l => ∀ m t s d k, R.denF i167 a167 (bodyOf Tryz.f167) Tryz.f167.results.toList e167.ps e167.rs l ⟨m, t, s, d⟩ k = wrapF 3 1 sf167 l ⟨m, t, s, d⟩ k := by
  intro x0 x1 x2 m t s d k
  kernel_rfl
theorem ok167 : FunOK Tryz.prog 167 e167 := fun_ok facts mixed (I := i167) (FnsOK.cons ok239 FnsOK.nil) Tryz.func167 (by kernel_rfl) (by kernel_rfl) (by kernel_rfl) (an := a167) (by kernel_rfl) (by kernel_rfl) q167
noncomputable def sf177 : FT 1 1 := fun a1 m t s d k =>
okB (ifB (ifB (ble (succ (xor a1 9223372036854775808)) 9223372036854775809) false true) (ifB (ble (succ (xor a1 9223372036854775808)) 9223372036854775809) false true) true) <|
force (ifB (ifB (ifB (ble (succ (xor a1 9223372036854775808)) 9223372036854775809) false true) (ifB (ble 9223372036854775841 (xor a1 9223372036854775808)) false true) false) 1 0) fun v2 =>
k v2 m t s d
noncomputable def e177 : FunE := ⟨[.one (.int .i64)], [.one .bool], wrapF 1 1 sf177⟩
noncomputable def i177 : FI := ⟨9, [], [2, 5], [], []⟩
def a177 : An := (.sq .reg (.sq .reg .ret))
theorem q177 : AllN 1 fun l => ∀ m t s d k, R.denF i177 a177 (bodyOf Tryz.f177) Tryz.f177.results.toList e177.ps e177.rs l ⟨m, t, s, d⟩ k = wrapF 1 1 sf177 l ⟨m, t, s, d⟩ k := by
  intro x0 m t s d k
  kernel_rfl
theorem ok177 : FunOK Tryz.prog 177 e177 := fun_ok facts mixed (I := i177) FnsOK.nil Tryz.func177 (by kernel_rfl) (by kernel_rfl) (by kernel_rfl) (an := a177) (by kernel_rfl) (by kernel_rfl) q177
noncomputable def sf132 : FT 2 2 := fun a1 a2 m t s d k =>
sf177 a2 m t s d fun r3 m4 t4 s4 d4 =>
okB (ifB (ifB (ifB (beq r3 1) false true) false true) (ifB (beq a1 0) false true) true) <|
okB (ifB (ifB (ifB (beq r3 1) false true) false true) (ble (succ a2) 33) true) <|
okB (ifB (ifB (beq r3 1) false true) true (ifB (ifB (beq r3 1) false true) false true)) <|
ifB (ifB (ifB (beq r3 1) false true) true (beq (land (shiftRight m4 (add (add (add a1 256) (mul a2 448)) 64)) 18446744073709551615) 0)) (
force 0 fun v5 =>
force v5 fun v6 =>
force (ifB false 1 0) fun v7 =>
k v6 v7 m4 t4 s4 d4) <|
okB (ifB (beq a1 0) false true) <|
okB (ble (succ a2) 33) <|
force (land (shiftRight m4 (add (add a1 256) (mul a2 448))) (mask 7)) fun v8 =>
force v8 fun v9 =>
force (ifB true 1 0) fun v10 =>
k v9 v10 m4 t4 s4 d4
noncomputable def e132 : FunE := ⟨[.ptr (lay 198) false false, .one (.int .i64)], [.agg (lay 195), .one .bool], wrapF 2 2 sf132⟩
noncomputable def i132 : FI := ⟨26, [4], [4, 5, 9, 18], [(177, e177)], []⟩
def a132 : An := (.sq .reg (.sq (.sq .reg (.cd (.sq .reg .ret) .skip)) (.sq .reg .ret)))
theorem q132 : AllN 2 fun l => ∀ m t s d k, R.denF i132 a132 (bodyOf Tryz.f132) Tryz.f132.results.toList e132.ps e132.rs l ⟨m, t, s, d⟩ k = wrapF 2 2 sf132 l ⟨m, t, s, d⟩ k := by
  intro x0 x1 m t s d k
  kernel_rfl
theorem ok132 : FunOK Tryz.prog 132 e132 := fun_ok facts mixed (I := i132) (FnsOK.cons ok177 FnsOK.nil) Tryz.func132 (by kernel_rfl) (by kernel_rfl) (by kernel_rfl) (an := a132) (by kernel_rfl) (by kernel_rfl) q132
noncomputable def sf168 : FT 2 1 := fun a1 a2 m t s d k =>
sf132 a1 a2 m t s d fun r3 r4 m5 t5 s5 d5 =>
force r3 fun v6 =>
join (fun (m7 t7 s7 d7 : Nat) =>
k r4 m7 t7 s7 d7) fun J8 =>
ifB (beq r4 1) (
okB (ifB (beq a1 0) false true) <|
okB (ble (succ a2) 33) <|
force (xor (land (shiftRight m5 (add (add a1 256) (mul a2 448))) (mask 7)) 0) fun v9 =>
force (xor m5 (xor (shiftLeft v9 (add (add a1 256) (mul a2 448))) (mod (add v9 (add (add a1 256) (mul a2 448))) 2305843009213693951))) fun m10 =>
J8 m10 t5 s5 d5) <|
J8 m5 t5 s5 d5
noncomputable def e168 : FunE := ⟨[.ptr (lay 198) false false, .one (.int .i64)], [.one .bool], wrapF 2 1 sf168⟩
noncomputable def i168 : FI := ⟨21, [5], [4, 6, 7, 13], [(132, e132)], []⟩
def a168 : An := (.sq .reg (.sq .reg (.sj [] (.sq .reg (.cd .reg .skip)) (.sq .reg .ret))))
theorem q168 : AllN 2 fun l => ∀ m t s d k, R.denF i168 a168 (bodyOf Tryz.f168) Tryz.f168.results.toList e168.ps e168.rs l ⟨m, t, s, d⟩ k = wrapF 2 1 sf168 l ⟨m, t, s, d⟩ k := by
  intro x0 x1 m t s d k
  kernel_rfl
theorem ok168 : FunOK Tryz.prog 168 e168 := fun_ok facts mixed (I := i168) (FnsOK.cons ok132 FnsOK.nil) Tryz.func168 (by kernel_rfl) (by kernel_rfl) (by kernel_rfl) (an := a168) (by kernel_rfl) (by kernel_rfl) q168
noncomputable def sf179 : FT 1 1 := fun a1 m t s d k =>
okB (ifB (ifB (ble (succ (xor a1 9223372036854775808)) 9223372036854775809) false true) (ifB (ble (succ (xor a1 9223372036854775808)) 9223372036854775809) false true) true) <|
force (ifB (ifB (ifB (ble (succ (xor a1 9223372036854775808)) 9223372036854775809) false true) (ifB (ble 9223372036854775841 (xor a1 9223372036854775808)) false true) false) 1 0) fun v2 =>
k v2 m t s d
noncomputable def e179 : FunE := ⟨[.one (.int .i64)], [.one .bool], wrapF 1 1 sf179⟩
noncomputable def i179 : FI := ⟨9, [], [2, 5], [], []⟩
def a179 : An := (.sq .reg (.sq .reg .ret))
theorem q179 : AllN 1 fun l => ∀ m t s d k, R.denF i179 a179 (bodyOf Tryz.f179) Tryz.f179.results.toList e179.ps e179.rs l ⟨m, t, s, d⟩ k = wrapF 1 1 sf179 l ⟨m, t, s, d⟩ k := by
  intro x0 m t s d k
  kernel_rfl
theorem ok179 : FunOK Tryz.prog 179 e179 := fun_ok facts mixed (I := i179) FnsOK.nil Tryz.func179 (by kernel_rfl) (by kernel_rfl) (by kernel_rfl) (an := a179) (by kernel_rfl) (by kernel_rfl) q179
noncomputable def sf169 : FT 2 1 := fun a1 a2 m t s d k =>
sf179 a2 m t s d fun r3 m4 t4 s4 d4 =>
okB (ifB (ifB (ifB (beq r3 1) false true) false true) (ifB (beq a1 0) false true) true) <|
okB (ifB (ifB (ifB (beq r3 1) false true) false true) (ble (succ a2) 33) true) <|
okB (ifB (ifB (beq r3 1) false true) true (ifB (ifB (beq r3 1) false true) false true)) <|
ifB (ifB (ifB (beq r3 1) false true) true (beq (land (shiftRight m4 (add (add a1 128) (mul a2 192))) 18446744073709551615) 0)) (
force (ifB false 1 0) fun v5 =>
k v5 m4 t4 s4 d4) <|
okB (ifB (beq a1 0) false true) <|
okB (ble (succ a2) 33) <|
force (xor (land (shiftRight m4 (add (add a1 128) (mul a2 192))) 6277101735386680763835789423207666416102355444464034512895) 0) fun v6 =>
force (xor m4 (xor (shiftLeft v6 (add (add a1 128) (mul a2 192))) (mod (add v6 (add (add a1 128) (mul a2 192))) 2305843009213693951))) fun m7 =>
force (ifB true 1 0) fun v8 =>
k v8 m7 t4 s4 d4
noncomputable def e169 : FunE := ⟨[.ptr (lay 193) false false, .one (.int .i64)], [.one .bool], wrapF 2 1 sf169⟩
noncomputable def i169 : FI := ⟨24, [], [4, 8, 17], [(179, e179)], []⟩
def a169 : An := (.sq .reg (.sq (.sq .reg (.cd (.sq .reg .ret) .skip)) (.sq .reg (.sq .reg .ret))))
theorem q169 : AllN 2 fun l => ∀ m t s d k, R.denF i169 a169 (bodyOf Tryz.f169) Tryz.f169.results.toList e169.ps e169.rs l ⟨m, t, s, d⟩ k = wrapF 2 1 sf169 l ⟨m, t, s, d⟩ k := by
  intro x0 x1 m t s d k
  kernel_rfl
theorem ok169 : FunOK Tryz.prog 169 e169 := fun_ok facts mixed (I := i169) (FnsOK.cons ok179 FnsOK.nil) Tryz.func169 (by kernel_rfl) (by kernel_rfl) (by kernel_rfl) (an := a169) (by kernel_rfl) (by kernel_rfl) q169
noncomputable def sf115 : FT 4 0 := fun a1 a2 a3 a4 m t s d k =>
force a3 fun v5 =>
force v5 fun v6 =>
sf80 v6 m t s d fun r7 m8 t8 s8 d8 =>
ifB (ifB (beq r7 1) false true) (
false) <|
okB (ifB (beq a1 0) false true) <|
ifB (beq (land (shiftRight v5 0) 18446744073709551615) (land (shiftRight m8 a1) 18446744073709551615)) (
force v5 fun v9 =>
sf163 a1 v9 m8 t8 s8 d8 fun m10 t10 s10 d10 =>
k m10 t10 s10 d10) <|
okB (ifB (beq a1 0) false true) <|
force (land (shiftRight m8 (add a1 960)) 18446744073709551615) fun v11 =>
force v5 fun v12 =>
sf53 v11 v12 m8 t8 s8 d8 fun r13 r14 m15 t15 s15 d15 =>
join (fun (m16 t16 s16 d16 : Nat) =>
okB (ifB (beq a1 0) false true) <|
force (land (shiftRight m16 (add a1 960)) 18446744073709551615) fun v18 =>
force (land (shiftRight v5 0) 18446744073709551615) fun v19 =>
sf14 v18 v19 m16 t16 s16 d16 fun r20 r21 m22 t22 s22 d22 =>
okB (beq (land (shiftRight v5 0) 18446744073709551615) (land (shiftRight v5 0) 18446744073709551615)) <|
okB (beq (land (shiftRight m22 (add a1 960)) 18446744073709551615) (land (shiftRight m16 (add a1 960)) 18446744073709551615)) <|
force r20 fun v23 =>
okB (ifB (beq (land (shiftRight v5 64) 18446744073709551615) 1) (beq (land (shiftRight v5 64) 18446744073709551615) 1) true) <|
okB (ifB (ifB (beq (land (shiftRight v5 64) 18446744073709551615) 1) (beq (land (shiftRight v23 64) 18446744073709551615) (land (shiftRight v5 64) 18446744073709551615)) false) (ifB (beq (land (shiftRight v5 64) 18446744073709551615) 1) (beq (land (shiftRight v23 64) 18446744073709551615) (land (shiftRight v5 64) 18446744073709551615)) false) true) <|
okB (ifB (ifB (ifB (beq (land (shiftRight v5 64) 18446744073709551615) 1) (beq (land (shiftRight v23 64) 18446744073709551615) (land (shiftRight v5 64) 18446744073709551615)) false) (beq (land (shiftRight v23 128) 18446744073709551615) (land (shiftRight v5 128) 18446744073709551615)) false) (ifB (beq a1 0) false true) true) <|
okB (ifB (ifB (ifB (beq (land (shiftRight v5 64) 18446744073709551615) 1) (beq (land (shiftRight v23 64) 18446744073709551615) (land (shiftRight v5 64) 18446744073709551615)) false) (beq (land (shiftRight v23 128) 18446744073709551615) (land (shiftRight v5 128) 18446744073709551615)) false) (ifB (beq a1 0) false true) true) <|
join (fun (r24 m25 t25 s25 d25 : Nat) =>
okB (ifB (ifB (ifB (beq (land (shiftRight v5 64) 18446744073709551615) 1) (beq (land (shiftRight v23 64) 18446744073709551615) (land (shiftRight v5 64) 18446744073709551615)) false) (beq (land (shiftRight v23 128) 18446744073709551615) (land (shiftRight v5 128) 18446744073709551615)) false) (ifB (ifB (beq (land (shiftRight v5 64) 18446744073709551615) 1) (beq (land (shiftRight v23 64) 18446744073709551615) (land (shiftRight v5 64) 18446744073709551615)) false) (beq (land (shiftRight v23 128) 18446744073709551615) (land (shiftRight v5 128) 18446744073709551615)) false) true) <|
ifB (ifB (ifB (ifB (beq (land (shiftRight v5 64) 18446744073709551615) 1) (beq (land (shiftRight v23 64) 18446744073709551615) (land (shiftRight v5 64) 18446744073709551615)) false) (beq (land (shiftRight v23 128) 18446744073709551615) (land (shiftRight v5 128) 18446744073709551615)) false) (beq r24 6) false) (
false) <|
ifB (ifB (beq r13 1) false true) (
k m25 t25 s25 d25) <|
ifB (beq (land (shiftRight v5 64) 18446744073709551615) 0) (
okB (ifB (beq a1 0) false true) <|
force (land (shiftRight m25 (add a1 1600)) 18446744073709551615) fun v27 =>
force (land (shiftRight v5 0) 18446744073709551615) fun v28 =>
force (land (shiftRight v5 128) 18446744073709551615) fun v29 =>
sf167 v27 v28 v29 m25 t25 s25 d25 fun r30 m31 t31 s31 d31 =>
k m31 t31 s31 d31) <|
force v5 fun v32 =>
sf16 v32 m25 t25 s25 d25 fun r33 m34 t34 s34 d34 =>
ifB (ifB (beq r33 1) false true) (
okB (ifB (beq a1 0) false true) <|
force (land (shiftRight m34 (add a1 1600)) 18446744073709551615) fun v35 =>
force (land (shiftRight v5 0) 18446744073709551615) fun v36 =>
force (mod (add (ifB (ble (succ (land (shiftRight v5 128) 18446744073709551615)) 4294967294) (land (shiftRight v5 128) 18446744073709551615) 4294967294) 1) 4294967296) fun v37 =>
sf167 v35 v36 v37 m34 t34 s34 d34 fun r38 m39 t39 s39 d39 =>
okB (ifB (beq a1 0) false true) <|
force (land (shiftRight m39 (add a1 1856)) 18446744073709551615) fun v40 =>
force (land (shiftRight v5 0) 18446744073709551615) fun v41 =>
sf168 v40 v41 m39 t39 s39 d39 fun r42 m43 t43 s43 d43 =>
okB (ifB (beq a1 0) false true) <|
force (land (shiftRight m43 (add a1 1792)) 18446744073709551615) fun v44 =>
force (land (shiftRight v5 0) 18446744073709551615) fun v45 =>
sf169 v44 v45 m43 t43 s43 d43 fun r46 m47 t47 s47 d47 =>
k m47 t47 s47 d47) <|
k m34 t34 s34 d34) fun J26 =>
ifB (ifB (ifB (beq (land (shiftRight v5 64) 18446744073709551615) 1) (beq (land (shiftRight v23 64) 18446744073709551615) (land (shiftRight v5 64) 18446744073709551615)) false) (beq (land (shiftRight v23 128) 18446744073709551615) (land (shiftRight v5 128) 18446744073709551615)) false) (
force (land (shiftRight m22 (add a1 1600)) 18446744073709551615) fun v48 =>
force (land (shiftRight v5 0) 18446744073709551615) fun v49 =>
force (land (shiftRight v5 128) 18446744073709551615) fun v50 =>
force (land (shiftRight m22 (add a1 512)) 18446744073709551615) fun v51 =>
sf165 v48 v49 v50 a2 v51 m22 t22 s22 d22 fun r52 m53 t53 s53 d53 =>
J26 r52 m53 t53 s53 d53) <|
J26 0 m22 t22 s22 d22) fun J17 =>
ifB (beq r13 1) (
force v5 fun v54 =>
sf164 a1 v54 m15 t15 s15 d15 fun m55 t55 s55 d55 =>
J17 m55 t55 s55 d55) <|
J17 m15 t15 s15 d15
noncomputable def e115 : FunE := ⟨[.ptr (lay 104) false false, .one (.int .u64), .agg (lay 53), .one (.int .i64)], [], wrapF 4 0 sf115⟩
noncomputable def i115 : FI := ⟨141, [6, 10], [6, 8, 10, 12, 16, 28, 37, 41, 54, 61, 68, 85, 96, 99, 112], [(14, e14), (16, e16), (53, e53), (80, e80), (163, e163), (164, e164), (165, e165), (167, e167), (168, e168), (169, e169)], []⟩
def a115 : An := (.sq .reg (.sq (.bl (.sq .reg (.cd .dead (.sq (.drw [(0, 0), (1, 0), (2, 0), (3, 0), (4, 0), (5, 0), (6, 0), (7, 0), (8, 0)]) (.cd (.sq .reg .ret) .skip))))) (.sq (.drw [(0, 0), (1, 0), (2, 0), (3, 0), (4, 0), (5, 1), (6, 0), (7, 0), (8, 0), (9, 0), (10, 0)]) (.sj [] (.sq .reg (.cd .reg .skip)) (.sq (.drw [(0, 0), (1, 0), (2, 0), (3, 0), (4, 0), (5, 0), (6, 1), (7, 0), (8, 0), (9, 0), (10, 2), (11, 1), (12, 0)]) (.sq (.sq (.drw [(0, 0), (1, 0), (2, 0), (3, 0), (4, 0), (5, 0), (6, 0), (7, 0), (8, 0), (9, 0), (10, 0), (11, 0), (12, 0), (13, 0), (14, 0), (15, 0), (16, 0), (17, 0), (18, 0), (19, 0), (20, 0), (21, 0), (22, 0), (23, 0), (24, 0), (25, 0), (26, 0), (27, 0), (28, 0), (29, 0), (30, 0), (31, 0), (32, 1), (33, 0), (34, 0)]) (.cd .dead .skip)) (.bl (.sq .reg (.cd .skip (.sq .reg (.cd (.drw [(0, 0), (1, 0), (2, 0), (3, 0), (4, 0), (5, 0), (6, 0), (7, 0), (8, 1)]) (.sq .reg (.cd (.sq (.drw [(0, 0), (1, 0), (2, 0), (3, 0), (4, 0), (5, 0), (6, 0), (7, 0), (8, 0), (9, 0), (10, 1)]) (.sq (.drw [(0, 0), (1, 0), (2, 0), (3, 0), (4, 0), (5, 0), (6, 1)]) (.drw [(0, 0), (1, 0), (2, 0), (3, 0), (4, 0), (5, 0), (6, 1)]))) .skip)))))))))))))
theorem q115 : AllN 4 fun l => ∀ m t s d k, R.denF i115 a115 (bodyOf Tryz.f115) Tryz.f115.results.toList e115.ps e115.rs l ⟨m, t, s, d⟩ k = wrapF 4 0 sf115 l ⟨m, t, s, d⟩ k := by
  intro x0 x1 x2 x3 m t s d k
  kernel_rfl
theorem ok115 : FunOK Tryz.prog 115 e115 := fun_ok facts mixed (I := i115) (FnsOK.cons ok14 (FnsOK.cons ok16 (FnsOK.cons ok53 (FnsOK.cons ok80 (FnsOK.cons ok163 (FnsOK.cons ok164 (FnsOK.cons ok165 (FnsOK.cons ok167 (FnsOK.cons ok168 (FnsOK.cons ok169 FnsOK.nil)))))))))) Tryz.func115 (by kernel_rfl) (by kernel_rfl) (by kernel_rfl) (an := a115) (by kernel_rfl) (by kernel_rfl) q115
noncomputable def sf87 : FT 2 0 := fun a1 a2 m t s d k =>
okB (ifB (beq a1 0) false true) <|
force (land (shiftRight m (add a1 1600)) 18446744073709551615) fun v3 =>
sf114 v3 a2 m t s d fun r4 m5 t5 s5 d5 =>
force (land (shiftRight r4 28) 131071) fun v6 =>
loopN 5 (fun (_ _ _ _ _ : Nat) => false) (fun L9 (p7 m8 t8 s8 d8 : Nat) =>
ifB (ble (succ (xor p7 9223372036854775808)) (xor v6 9223372036854775808)) (
okB (ble (succ p7) (land (shiftRight r4 28) 131071)) <|
okB (beq (land (shiftRight d8 (shiftRight (add (land r4 268435455) (mul p7 320)) 6)) 31) 0) <|
force (land (shiftRight m8 (add (land r4 268435455) (mul p7 320))) (mask 5)) fun v10 =>
okB (ifB (beq a1 0) false true) <|
force (land (shiftRight m8 (add a1 960)) 18446744073709551615) fun v11 =>
force (land (shiftRight v10 0) 18446744073709551615) fun v12 =>
sf14 v11 v12 m8 t8 s8 d8 fun r13 r14 m15 t15 s15 d15 =>
okB (beq (land (shiftRight v10 0) 18446744073709551615) (land (shiftRight v10 0) 18446744073709551615)) <|
okB (beq (land (shiftRight m15 (add a1 960)) 18446744073709551615) (land (shiftRight m8 (add a1 960)) 18446744073709551615)) <|
force r13 fun v16 =>
force (xor (xor (xor (land (shiftRight v10 0) 18446744073709551615) 36893488147419103232) (shiftLeft (land (shiftRight v10 64) 18446744073709551615) 128)) (shiftLeft (land (shiftRight v16 192) 340282366920938463463374607431768211455) 192)) fun v17 =>
sf115 a1 a2 v17 0 m15 t15 s15 d15 fun m18 t18 s18 d18 =>
force (mod (add p7 1) 18446744073709551616) fun v19 =>
L9 v19 m18 t18 s18 d18) <|
k m8 t8 s8 d8) 0 m5 t5 s5 d5
noncomputable def e87 : FunE := ⟨[.ptr (lay 104) false false, .one (.int .u64)], [], wrapF 2 0 sf87⟩
noncomputable def i87 : FI := ⟨40, [5, 6], [5, 6, 13, 14, 15, 16, 19], [(14, e14), (114, e114), (115, e115)], []⟩
def a87 : An := (.sq .reg (.bl (.lp [(15, .sh (.one (.int .i64)))] 5 (.sq .reg (.sq (.cd .skip .ex) (.sq (.bl (.sq .reg (.sq (.drw [(0, 0), (1, 0), (2, 0), (3, 0), (4, 0), (5, 0), (6, 1), (7, 0), (8, 0), (9, 0), (10, 2), (11, 1), (12, 0)]) .reg))) .reg))))))
theorem q87 : AllN 2 fun l => ∀ m t s d k, R.denF i87 a87 (bodyOf Tryz.f87) Tryz.f87.results.toList e87.ps e87.rs l ⟨m, t, s, d⟩ k = wrapF 2 0 sf87 l ⟨m, t, s, d⟩ k := by
  intro x0 x1 m t s d k
  kernel_rfl
theorem ok87 : FunOK Tryz.prog 87 e87 := fun_ok facts mixed (I := i87) (FnsOK.cons ok14 (FnsOK.cons ok114 (FnsOK.cons ok115 FnsOK.nil))) Tryz.func87 (by kernel_rfl) (by kernel_rfl) (by kernel_rfl) (an := a87) (by kernel_rfl) (by kernel_rfl) q87
noncomputable def sf148 : FT 3 1 := fun a1 a2 a3 m t s d k =>
okB (ifB (beq (land (shiftRight m a2) 18446744073709551615) 0) false true) <|
okB (ifB (beq a1 (land (shiftRight m (land (shiftRight m a2) 18446744073709551615)) 18446744073709551615)) true (ifB (beq a1 (land (shiftRight m (land (shiftRight m a2) 18446744073709551615)) 18446744073709551615)) false true)) <|
force (ifB (ifB (beq a1 (land (shiftRight m (land (shiftRight m a2) 18446744073709551615)) 18446744073709551615)) true (beq a1 (land (shiftRight m a3) 18446744073709551615))) 1 0) fun v4 =>
k v4 m t s d
noncomputable def e148 : FunE := ⟨[.one (.int .i64), .ptr ([.ptr 104]) false true, .ptr ([.int .i64]) false true], [.one .bool], wrapF 3 1 sf148⟩
noncomputable def i148 : FI := ⟨17, [], [4, 12], [], []⟩
def a148 : An := (.sq .reg (.sq .reg .ret))
theorem q148 : AllN 3 fun l => ∀ m t s d k, R.denF i148 a148 (bodyOf Tryz.f148) Tryz.f148.results.toList e148.ps e148.rs l ⟨m, t, s, d⟩ k = wrapF 3 1 sf148 l ⟨m, t, s, d⟩ k := by
  intro x0 x1 x2 m t s d k
  kernel_rfl
theorem ok148 : FunOK Tryz.prog 148 e148 := fun_ok facts mixed (I := i148) FnsOK.nil Tryz.func148 (by kernel_rfl) (by kernel_rfl) (by kernel_rfl) (an := a148) (by kernel_rfl) (by kernel_rfl) q148
noncomputable def sf219 : FT 2 1 := fun a1 a2 m t s d k =>
join (fun (m3 t3 s3 d3 : Nat) =>
k 18446744073709551615 m3 t3 s3 d3) fun J4 =>
force (land (shiftRight a1 28) 131071) fun v5 =>
loopN 5 (fun (_ _ _ _ _ : Nat) => false) (fun L8 (p6 m7 t7 s7 d7 : Nat) =>
ifB (ble (succ (xor p6 9223372036854775808)) (xor v5 9223372036854775808)) (
okB (ble (succ p6) (land (shiftRight a1 28) 131071)) <|
okB (beq (land (shiftRight d7 (shiftRight (add (land a1 268435455) (mul p6 64)) 6)) 1) 0) <|
ifB (beq (land a2 1023) 149) (
force (land (shiftRight m7 (add (land a1 268435455) (mul p6 64))) 18446744073709551615) fun v9 =>
force (shiftLeft (land (shiftRight a2 10) 4194303) 6) fun v10 =>
force (shiftLeft (land (shiftRight a2 32) 4194303) 6) fun v11 =>
sf148 v9 v10 v11 m7 t7 s7 d7 fun r12 m13 t13 s13 d13 =>
ifB (beq r12 1) (
k p6 m13 t13 s13 d13) <|
force (mod (add p6 1) 18446744073709551616) fun v14 =>
L8 v14 m13 t13 s13 d13) <|
false) <|
J4 m7 t7 s7 d7) 0 m t s d
noncomputable def e219 : FunE := ⟨[.sli ([.int .i64]), .one .fn], [.one (.int .i64)], wrapF 2 1 sf219⟩
noncomputable def i219 : FI := ⟨19, [], [4, 5, 7, 8, 9, 16], [(148, e148)], [(16, [148])]⟩
def a219 : An := (.sq .reg (.sj [] (.sq .reg (.bl (.lp [(8, .sh (.one (.int .i64)))] 5 (.sq .reg (.sq (.cd .skip .ex) (.sq (.bl (.sq .reg (.sq .reg (.cd (.sq .reg .ret) .skip)))) .reg)))))) (.sq .reg .ret)))
theorem q219 : AllN 2 fun l => ∀ m t s d k, R.denF i219 a219 (bodyOf Tryz.f219) Tryz.f219.results.toList e219.ps e219.rs l ⟨m, t, s, d⟩ k = wrapF 2 1 sf219 l ⟨m, t, s, d⟩ k := by
  intro x0 x1 m t s d k
  kernel_rfl
theorem ok219 : FunOK Tryz.prog 219 e219 := fun_ok facts mixed (I := i219) (FnsOK.cons ok148 FnsOK.nil) Tryz.func219 (by kernel_rfl) (by kernel_rfl) (by kernel_rfl) (an := a219) (by kernel_rfl) (by kernel_rfl) q219
noncomputable def sf146 : FT 2 1 := fun a1 a2 m t s d k =>
sf219 a1 a2 m t s d fun r3 m4 t4 s4 d4 =>
ifB (beq r3 18446744073709551615) (
k a1 m4 t4 s4 d4) <|
join (fun (p5 m6 t6 s6 d6 : Nat) =>
okB (ifB (ble p5 (land (shiftRight a1 28) 131071)) (ble (land (shiftRight a1 28) 131071) (land (shiftRight a1 45) 131071)) false) <|
join (fun (m8 t8 s8 d8 : Nat) =>
okB (ifB (ble 0 p5) (ble p5 (land (shiftRight a1 45) 131071)) false) <|
force (ifB (beq (land a1 268435455) 0) a1 (ifB (beq (add (sub (land (shiftRight a1 45) 131071) 0) (shiftRight a1 62)) 0) 9223372036854775808 (add (land a1 268435455) (shiftLeft (add (sub p5 0) (shiftLeft (add (sub (land (shiftRight a1 45) 131071) 0) (shiftLeft (shiftRight a1 62) 17)) 17)) 28)))) fun v10 =>
k v10 m8 t8 s8 d8) fun J9 =>
clrR (ifB (beq (land a1 268435455) 0) a1 (ifB (beq (add (sub (land (shiftRight a1 45) 131071) p5) (shiftRight a1 62)) 0) 9223372036854775808 (add (add (land a1 268435455) (mul p5 64)) (shiftLeft (add (sub (land (shiftRight a1 28) 131071) p5) (shiftLeft (add (sub (land (shiftRight a1 45) 131071) p5) (shiftLeft (shiftRight a1 62) 17)) 17)) 28)))) 1 m6 t6 s6 d6 J9) fun J7 =>
force (mod (add r3 1) 18446744073709551616) fun v11 =>
loopN 5 (fun (_ _ _ _ _ _ : Nat) => false) (fun L15 (p12 p13 m14 t14 s14 d14 : Nat) =>
ifB (ble (succ (xor p13 9223372036854775808)) (xor (land (shiftRight a1 28) 131071) 9223372036854775808)) (
join (fun (p16 m17 t17 s17 d17 : Nat) =>
force (mod (add p13 1) 18446744073709551616) fun v19 =>
L15 p16 v19 m17 t17 s17 d17) fun J18 =>
okB (ble (succ p13) (land (shiftRight a1 28) 131071)) <|
okB (beq (land (shiftRight d14 (shiftRight (add (land a1 268435455) (mul p13 64)) 6)) 1) 0) <|
force (land (shiftRight m14 (add (land a1 268435455) (mul p13 64))) 18446744073709551615) fun v20 =>
ifB (beq (land a2 1023) 149) (
force (shiftLeft (land (shiftRight a2 10) 4194303) 6) fun v21 =>
force (shiftLeft (land (shiftRight a2 32) 4194303) 6) fun v22 =>
sf148 v20 v21 v22 m14 t14 s14 d14 fun r23 m24 t24 s24 d24 =>
ifB (ifB (beq r23 1) false true) (
okB (ble (succ p12) (land (shiftRight a1 28) 131071)) <|
okB (beq (land (shiftRight d24 (shiftRight (add (land a1 268435455) (mul p12 64)) 6)) 1) 0) <|
force (xor (land (shiftRight m24 (add (land a1 268435455) (mul p12 64))) 18446744073709551615) v20) fun v25 =>
force (xor m24 (xor (shiftLeft v25 (add (land a1 268435455) (mul p12 64))) (mod (add v25 (add (land a1 268435455) (mul p12 64))) 2305843009213693951))) fun m26 =>
force (mod (add p12 1) 18446744073709551616) fun v27 =>
J18 v27 m26 t24 s24 d24) <|
J18 p12 m24 t24 s24 d24) <|
false) <|
J7 p12 m14 t14 s14 d14) r3 v11 m4 t4 s4 d4
noncomputable def e146 : FunE := ⟨[.sli ([.int .i64]), .one .fn], [.sli ([.int .i64])], wrapF 2 1 sf146⟩
noncomputable def i146 : FI := ⟨42, [], [4, 5, 6, 7, 12, 19, 29], [(148, e148), (219, e219)], [(28, [148])]⟩
def a146 : An := (.sq .reg (.sq .reg (.sq (.sq .reg (.cd (.sq .reg .ret) .skip)) (.sj [(5, .sh (.one (.int .i64)))] (.sq .reg (.bl (.lp [(5, .sh (.one (.int .i64))), (6, .sh (.one (.int .i64)))] 5 (.sq (.sq .reg (.cd .skip .ex)) (.sj [(5, .sh (.one (.int .i64)))] (.bl (.sq .reg (.sq .reg (.cd (.sq .reg .reg) .skip)))) .reg))))) (.sq .reg (.sq .reg .ret))))))
theorem q146 : AllN 2 fun l => ∀ m t s d k, R.denF i146 a146 (bodyOf Tryz.f146) Tryz.f146.results.toList e146.ps e146.rs l ⟨m, t, s, d⟩ k = wrapF 2 1 sf146 l ⟨m, t, s, d⟩ k := by
  intro x0 x1 m t s d k
  kernel_rfl
theorem ok146 : FunOK Tryz.prog 146 e146 := fun_ok facts mixed (I := i146) (FnsOK.cons ok148 (FnsOK.cons ok219 FnsOK.nil)) Tryz.func146 (by kernel_rfl) (by kernel_rfl) (by kernel_rfl) (an := a146) (by kernel_rfl) (by kernel_rfl) q146
noncomputable def sf147 : FT 1 1 := fun a1 m t s d k =>
join (loopN 35 (fun (_ _ _ _ _ _ : Nat) => false) (fun L5 (p2 p3 m4 t4 s4 d4 : Nat) =>
force (mod (add p3 1) 18446744073709551616) fun v7 =>
ifB (ble 9223372036854775841 (xor v7 9223372036854775808)) (
k p2 m4 t4 s4 d4) <|
join (fun (p8 m9 t9 s9 d9 : Nat) =>
L5 p8 v7 m9 t9 s9 d9) fun J10 =>
sf14 a1 v7 m4 t4 s4 d4 fun r11 r12 m13 t13 s13 d13 =>
force r11 fun v14 =>
join (fun (r15 m16 t16 s16 d16 : Nat) =>
okB (ifB (beq r12 1) (beq r12 1) true) <|
ifB (ifB (beq r12 1) (beq r15 1) false) (
force v7 fun v18 =>
join (fun (r19 m20 t20 s20 d20 : Nat) =>
J10 r19 m20 t20 s20 d20) fun J21 =>
appR 1 p2 1 v18 m16 t16 s16 d16 J21) <|
J10 p2 m16 t16 s16 d16) fun J17 =>
ifB (beq r12 1) (
force v14 fun v22 =>
sf16 v22 m13 t13 s13 d13 fun r23 m24 t24 s24 d24 =>
J17 r23 m24 t24 s24 d24) <|
J17 0 m13 t13 s13 d13)) fun J6 =>
force 1 fun v25 =>
ifB (ble 9223372036854775841 (xor v25 9223372036854775808)) (
k 0 m t s d) <|
join (fun (p26 m27 t27 s27 d27 : Nat) =>
J6 p26 v25 m27 t27 s27 d27) fun J28 =>
sf14 a1 v25 m t s d fun r29 r30 m31 t31 s31 d31 =>
force r29 fun v32 =>
join (fun (r33 m34 t34 s34 d34 : Nat) =>
okB (ifB (beq r30 1) (beq r30 1) true) <|
ifB (ifB (beq r30 1) (beq r33 1) false) (
force v25 fun v36 =>
join (fun (r37 m38 t38 s38 d38 : Nat) =>
J28 r37 m38 t38 s38 d38) fun J39 =>
appR 1 0 1 v36 m34 t34 s34 d34 J39) <|
J28 0 m34 t34 s34 d34) fun J35 =>
ifB (beq r30 1) (
force v32 fun v40 =>
sf16 v40 m31 t31 s31 d31 fun r41 m42 t42 s42 d42 =>
J35 r41 m42 t42 s42 d42) <|
J35 0 m31 t31 s31 d31
noncomputable def e147 : FunE := ⟨[.ptr (lay 108) false false], [.sli ([.int .i64])], wrapF 1 1 sf147⟩
noncomputable def i147 : FI := ⟨27, [5, 25], [2, 3, 4, 5, 6, 10, 12, 19, 22], [(14, e14), (16, e16)], []⟩
def a147 : An := (.sq .reg (.sc (.lb 0 [(3, .sh (.sli ([.int .i64]))), (4, .sh (.one (.int .i64)))] 35 (.sq .skip (.sq (.sq .reg (.sq .reg (.cd (.sq .reg .ret) .skip))) (.sj [(3, .sh (.sli ([.int .i64])))] (.sq .reg (.sq .reg (.cd .reg .skip))) .go))) (.sq .reg (.sq .reg (.sq .skip (.sq (.sq .reg (.sq .reg (.cd (.sq .reg .ret) .skip))) (.sj [(3, .sh (.sli ([.int .i64])))] (.sq .reg (.sq .reg (.cd .reg .skip))) .go))))))))
theorem q147 : AllN 1 fun l => ∀ m t s d k, R.denF i147 a147 (bodyOf Tryz.f147) Tryz.f147.results.toList e147.ps e147.rs l ⟨m, t, s, d⟩ k = wrapF 1 1 sf147 l ⟨m, t, s, d⟩ k := by
  intro x0 m t s d k
  kernel_rfl
theorem ok147 : FunOK Tryz.prog 147 e147 := fun_ok facts mixed (I := i147) (FnsOK.cons ok14 (FnsOK.cons ok16 FnsOK.nil)) Tryz.func147 (by kernel_rfl) (by kernel_rfl) (by kernel_rfl) (an := a147) (by kernel_rfl) (by kernel_rfl) q147
noncomputable def sf107 : FT 2 1 := fun a1 a2 m t s d k =>
force (shiftLeft t 6) fun v3 =>
force (add t 1) fun t4 =>
okB (ble (succ t4) 4194304) <|
force (xor m (xor (shiftLeft a1 (shiftLeft t 6)) (mod (add a1 t) 2305843009213693951))) fun m5 =>
force (shiftLeft t4 6) fun v6 =>
force (add t4 1) fun t7 =>
okB (ble (succ t7) 4194304) <|
force (xor m5 (xor (shiftLeft a2 (shiftLeft t4 6)) (mod (add a2 t4) 2305843009213693951))) fun m8 =>
okB (ifB (beq (land (shiftRight m8 v3) 18446744073709551615) 0) false true) <|
force (land (shiftRight m8 (add (land (shiftRight m8 v3) 18446744073709551615) 960)) 18446744073709551615) fun v9 =>
sf147 v9 m8 t7 s d fun r10 m11 t11 s11 d11 =>
okB (ifB (ifB (beq v3 0) false (ble (succ v3) 268435456)) (ifB (beq v6 0) false (ble (succ v6) 268435456)) false) <|
force (add (add 149 (shiftLeft (shiftRight v3 6) 10)) (shiftLeft (shiftRight v6 6) 32)) fun v12 =>
sf146 r10 v12 m11 t11 s11 d11 fun r13 m14 t14 s14 d14 =>
k r13 m14 t14 s14 d14
noncomputable def e107 : FunE := ⟨[.ptr (lay 104) false false, .one (.int .i64)], [.sli ([.int .i64])], wrapF 2 1 sf107⟩
noncomputable def i107 : FI := ⟨12, [], [2, 3, 4], [(146, e146), (147, e147)], []⟩
def a107 : An := (.sq .reg (.sq .reg .ret))
theorem q107 : AllN 2 fun l => ∀ m t s d k, R.denF i107 a107 (bodyOf Tryz.f107) Tryz.f107.results.toList e107.ps e107.rs l ⟨m, t, s, d⟩ k = wrapF 2 1 sf107 l ⟨m, t, s, d⟩ k := by
  intro x0 x1 m t s d k
  kernel_rfl
theorem ok107 : FunOK Tryz.prog 107 e107 := fun_ok facts mixed (I := i107) (FnsOK.cons ok146 (FnsOK.cons ok147 FnsOK.nil)) Tryz.func107 (by kernel_rfl) (by kernel_rfl) (by kernel_rfl) (an := a107) (by kernel_rfl) (by kernel_rfl) q107
noncomputable def sf170 : FT 1 1 := fun a1 m t s d k =>
force a1 fun v2 =>
force (xor (xor 0 (shiftLeft (land (shiftRight v2 320) 18446744073709551615) 320)) (shiftLeft (land (shiftRight v2 384) 18446744073709551615) 384)) fun v3 =>
force v3 fun v4 =>
k v4 m t s d
noncomputable def e170 : FunE := ⟨[.agg (lay 95)], [.agg (lay 95)], wrapF 1 1 sf170⟩
noncomputable def i170 : FI := ⟨8, [1, 2], [1, 2], [], []⟩
def a170 : An := (.sq .reg (.sq .reg .ret))
theorem q170 : AllN 1 fun l => ∀ m t s d k, R.denF i170 a170 (bodyOf Tryz.f170) Tryz.f170.results.toList e170.ps e170.rs l ⟨m, t, s, d⟩ k = wrapF 1 1 sf170 l ⟨m, t, s, d⟩ k := by
  intro x0 m t s d k
  kernel_rfl
theorem ok170 : FunOK Tryz.prog 170 e170 := fun_ok facts mixed (I := i170) FnsOK.nil Tryz.func170 (by kernel_rfl) (by kernel_rfl) (by kernel_rfl) (an := a170) (by kernel_rfl) (by kernel_rfl) q170
noncomputable def sf116 : FT 2 2 := fun a1 a2 m t s d k =>
force a1 fun v3 =>
join (loopN 4 (fun (_ _ _ _ _ _ : Nat) => false) (fun L7 (p4 p5 m6 t6 s6 d6 : Nat) =>
force (xor p4 (shiftLeft (xor (land (shiftRight p4 0) 18446744073709551615) 2) 0)) fun v9 =>
force (xor v9 (shiftLeft (xor (land (shiftRight v9 256) 18446744073709551615) (mod (add (land (shiftRight v9 256) 18446744073709551615) (land (shiftRight v9 384) 18446744073709551615)) 18446744073709551616)) 256)) fun v10 =>
force v10 fun v11 =>
force v11 fun v12 =>
k v12 1 m6 t6 s6 d6)) fun J8 =>
join (loopN 4 (fun (_ _ _ _ _ _ : Nat) => false) (fun L16 (p13 p14 m15 t15 s15 d15 : Nat) =>
force p13 fun v18 =>
force v18 fun v19 =>
k v19 0 m15 t15 s15 d15)) fun J17 =>
okB (ifB (beq (land (shiftRight v3 0) 18446744073709551615) 0) true (ifB (beq (land (shiftRight v3 0) 18446744073709551615) 0) false true)) <|
ifB (ifB (beq (land (shiftRight v3 0) 18446744073709551615) 0) true (ble (succ a2) (land (shiftRight v3 256) 18446744073709551615))) (
J17 v3 0 m t s d) <|
ifB (beq (land (shiftRight v3 0) 18446744073709551615) 1) (
J8 v3 0 m t s d) <|
force v3 fun v20 =>
sf170 v20 m t s d fun r21 m22 t22 s22 d22 =>
force r21 fun v23 =>
force v23 fun v24 =>
k v24 2 m22 t22 s22 d22
noncomputable def e116 : FunE := ⟨[.agg (lay 95), .one (.int .u64)], [.agg (lay 95), .one (.int .i64)], wrapF 2 2 sf116⟩
noncomputable def i116 : FI := ⟨29, [2, 4], [2, 4, 5, 9, 14, 17], [(170, e170)], []⟩
def a116 : An := (.sq .reg (.sc (.lb 1 [(2, .loc (lay 95)), (4, .loc (lay 95))] 4 (.sq .skip (.sq .reg (.sq .reg (.sq (.sq .reg .ret) .dead)))) (.lb 0 [(2, .loc (lay 95)), (4, .loc (lay 95))] 4 (.sq .skip (.sq .reg .ret)) (.sq (.sq .reg (.cd .go .skip)) (.sq (.sq .reg (.cd .go .skip)) (.sq (.sq .reg .ret) .dead)))))))
theorem q116 : AllN 2 fun l => ∀ m t s d k, R.denF i116 a116 (bodyOf Tryz.f116) Tryz.f116.results.toList e116.ps e116.rs l ⟨m, t, s, d⟩ k = wrapF 2 2 sf116 l ⟨m, t, s, d⟩ k := by
  intro x0 x1 m t s d k
  kernel_rfl
theorem ok116 : FunOK Tryz.prog 116 e116 := fun_ok facts mixed (I := i116) (FnsOK.cons ok170 FnsOK.nil) Tryz.func116 (by kernel_rfl) (by kernel_rfl) (by kernel_rfl) (an := a116) (by kernel_rfl) (by kernel_rfl) q116
noncomputable def sf176 : FT 2 2 := fun a1 a2 m t s d k =>
force a1 fun v3 =>
sf235 a2 m t s d fun r4 m5 t5 s5 d5 =>
force (mod (sub (add (land (shiftRight r4 28) 131071) 18446744073709551616) 1) 18446744073709551616) fun v6 =>
ifB (ble (succ (xor v6 9223372036854775808)) 9223372036854775809) (
force v3 fun v7 =>
force v7 fun v8 =>
k r4 v8 m5 t5 s5 d5) <|
false
noncomputable def e176 : FunE := ⟨[.agg [.opq], .sli ([.int .i64])], [.sli ([.int .i64]), .agg [.opq]], wrapF 2 2 sf176⟩
noncomputable def i176 : FI := ⟨41, [2, 5], [2, 4, 5, 6, 7, 8, 15, 18], [(235, e235)], []⟩
def a176 : An := (.sq .reg (.sc (.sq .reg (.sq .reg (.sq .skip (.sq (.sq .reg (.cd (.sq (.drw [(0, 0), (1, 0), (2, 0), (3, 1)]) .ret) .dead)) .dead))))))
theorem q176 : AllN 2 fun l => ∀ m t s d k, R.denF i176 a176 (bodyOf Tryz.f176) Tryz.f176.results.toList e176.ps e176.rs l ⟨m, t, s, d⟩ k = wrapF 2 2 sf176 l ⟨m, t, s, d⟩ k := by
  intro x0 x1 m t s d k
  kernel_rfl
theorem ok176 : FunOK Tryz.prog 176 e176 := fun_ok facts mixed (I := i176) (FnsOK.cons ok235 FnsOK.nil) Tryz.func176 (by kernel_rfl) (by kernel_rfl) (by kernel_rfl) (an := a176) (by kernel_rfl) (by kernel_rfl) q176
noncomputable def sf171 : FT 3 2 := fun a1 a2 a3 m t s d k =>
force a1 fun v4 =>
force v4 fun v5 =>
sf176 v5 a2 m t s d fun r6 r7 m8 t8 s8 d8 =>
force r7 fun v9 =>
okB (ifB (ble 0 (ifB (ble (succ (xor (ifB (ble (succ (xor a3 9223372036854775808)) (xor (land (shiftRight r6 28) 131071) 9223372036854775808)) a3 (land (shiftRight r6 28) 131071)) 9223372036854775808)) 9223372036854775808) 0 (ifB (ble (succ (xor a3 9223372036854775808)) (xor (land (shiftRight r6 28) 131071) 9223372036854775808)) a3 (land (shiftRight r6 28) 131071)))) (ble (ifB (ble (succ (xor (ifB (ble (succ (xor a3 9223372036854775808)) (xor (land (shiftRight r6 28) 131071) 9223372036854775808)) a3 (land (shiftRight r6 28) 131071)) 9223372036854775808)) 9223372036854775808) 0 (ifB (ble (succ (xor a3 9223372036854775808)) (xor (land (shiftRight r6 28) 131071) 9223372036854775808)) a3 (land (shiftRight r6 28) 131071))) (land (shiftRight r6 45) 131071)) false) <|
force (ifB (beq (land r6 268435455) 0) r6 (ifB (beq (add (sub (land (shiftRight r6 45) 131071) 0) (shiftRight r6 62)) 0) 9223372036854775808 (add (land r6 268435455) (shiftLeft (add (sub (ifB (ble (succ (xor (ifB (ble (succ (xor a3 9223372036854775808)) (xor (land (shiftRight r6 28) 131071) 9223372036854775808)) a3 (land (shiftRight r6 28) 131071)) 9223372036854775808)) 9223372036854775808) 0 (ifB (ble (succ (xor a3 9223372036854775808)) (xor (land (shiftRight r6 28) 131071) 9223372036854775808)) a3 (land (shiftRight r6 28) 131071))) 0) (shiftLeft (add (sub (land (shiftRight r6 45) 131071) 0) (shiftLeft (shiftRight r6 62) 17)) 17)) 28)))) fun v10 =>
force v9 fun v11 =>
force v11 fun v12 =>
k v10 v12 m8 t8 s8 d8
noncomputable def e171 : FunE := ⟨[.agg [.opq], .sli ([.int .i64]), .one (.int .i64)], [.sli ([.int .i64]), .agg [.opq]], wrapF 3 2 sf171⟩
noncomputable def i171 : FI := ⟨23, [3, 7], [3, 6, 7, 8, 9], [(176, e176)], []⟩
def a171 : An := (.sq .reg (.sq .reg (.sq (.drw [(0, 0), (1, 0), (2, 0), (3, 0), (4, 0), (5, 0), (6, 0), (7, 0), (8, 0), (9, 1)]) .ret)))
theorem q171 : AllN 3 fun l => ∀ m t s d k, R.denF i171 a171 (bodyOf Tryz.f171) Tryz.f171.results.toList e171.ps e171.rs l ⟨m, t, s, d⟩ k = wrapF 3 2 sf171 l ⟨m, t, s, d⟩ k := by
  intro x0 x1 x2 m t s d k
  kernel_rfl
theorem ok171 : FunOK Tryz.prog 171 e171 := fun_ok facts mixed (I := i171) (FnsOK.cons ok176 FnsOK.nil) Tryz.func171 (by kernel_rfl) (by kernel_rfl) (by kernel_rfl) (an := a171) (by kernel_rfl) (by kernel_rfl) q171
noncomputable def sf117 : FT 3 1 := fun a1 a2 a3 m t s d k =>
okB (ifB (beq a1 0) false true) <|
force (land (shiftRight m a1) 18446744073709551615) fun v4 =>
sf171 v4 a2 a3 m t s d fun r5 r6 m7 t7 s7 d7 =>
force r6 fun v8 =>
okB (ifB (beq a1 0) false true) <|
force (xor (land (shiftRight m7 a1) 18446744073709551615) v8) fun v9 =>
force (xor m7 (xor (shiftLeft v9 a1) (mod (add v9 a1) 2305843009213693951))) fun m10 =>
k r5 m10 t7 s7 d7
noncomputable def e117 : FunE := ⟨[.ptr (lay 169) false false, .sli ([.int .i64]), .one (.int .i64)], [.sli ([.int .i64])], wrapF 3 1 sf117⟩
noncomputable def i117 : FI := ⟨24, [8], [6, 7, 8, 9], [(171, e171)], []⟩
def a117 : An := (.sq .reg (.sq .reg (.sq .reg (.sq .reg .ret))))
theorem q117 : AllN 3 fun l => ∀ m t s d k, R.denF i117 a117 (bodyOf Tryz.f117) Tryz.f117.results.toList e117.ps e117.rs l ⟨m, t, s, d⟩ k = wrapF 3 1 sf117 l ⟨m, t, s, d⟩ k := by
  intro x0 x1 x2 m t s d k
  kernel_rfl
theorem ok117 : FunOK Tryz.prog 117 e117 := fun_ok facts mixed (I := i117) (FnsOK.cons ok171 FnsOK.nil) Tryz.func117 (by kernel_rfl) (by kernel_rfl) (by kernel_rfl) (an := a117) (by kernel_rfl) (by kernel_rfl) q117
noncomputable def sf88 : FT 2 0 := fun a1 a2 m t s d k =>
okB (ifB (beq a1 0) false true) <|
force (land (shiftRight m (add a1 1152)) (mask 7)) fun v3 =>
okB (ifB (beq a1 0) false true) <|
force (land (shiftRight m (add a1 1152)) (mask 7)) fun v4 =>
sf116 v4 a2 m t s d fun r5 r6 m7 t7 s7 d7 =>
okB (ifB (beq a1 0) false true) <|
force (xor (land (shiftRight m7 (add a1 1152)) (mask 7)) r5) fun v8 =>
force (xor m7 (xor (shiftLeft v8 (add a1 1152)) (mod (add v8 (add a1 1152)) 2305843009213693951))) fun m9 =>
okB (ifB (beq a1 0) false true) <|
force (land (shiftRight m9 (add a1 960)) 18446744073709551615) fun v10 =>
force (land (shiftRight v3 64) 18446744073709551615) fun v11 =>
sf14 v10 v11 m9 t7 s7 d7 fun r12 r13 m14 t14 s14 d14 =>
okB (beq (land (shiftRight v3 64) 18446744073709551615) (land (shiftRight v3 64) 18446744073709551615)) <|
okB (beq (land (shiftRight m14 (add a1 960)) 18446744073709551615) (land (shiftRight m9 (add a1 960)) 18446744073709551615)) <|
force r12 fun v15 =>
ifB (beq r6 1) (
okB (ifB (beq a1 0) false true) <|
okB (ifB (beq a1 0) false true) <|
force (land (shiftRight v3 64) 18446744073709551615) fun v16 =>
sf107 a1 v16 m14 t14 s14 d14 fun r17 m18 t18 s18 d18 =>
okB (beq (land (shiftRight m18 (add a1 576)) 18446744073709551615) (land (shiftRight m14 (add a1 576)) 18446744073709551615)) <|
okB (beq (land (shiftRight m18 (add a1 1088)) 18446744073709551615) (land (shiftRight m14 (add a1 1088)) 18446744073709551615)) <|
force (land (shiftRight m14 (add a1 1088)) 18446744073709551615) fun v19 =>
force (land (shiftRight m14 (add a1 576)) 18446744073709551615) fun v20 =>
sf117 v19 r17 v20 m18 t18 s18 d18 fun r21 m22 t22 s22 d22 =>
force (land (shiftRight r21 28) 131071) fun v23 =>
loopN 4 (fun (_ _ _ _ _ : Nat) => false) (fun L26 (p24 m25 t25 s25 d25 : Nat) =>
ifB (ble (succ (xor p24 9223372036854775808)) (xor v23 9223372036854775808)) (
false) <|
k m25 t25 s25 d25) 0 m22 t22 s22 d22) <|
okB (ifB (beq r6 2) (beq r6 2) true) <|
okB (ifB (ifB (beq r6 2) (beq r13 1) false) (ifB (beq r6 2) (beq r13 1) false) true) <|
ifB (ifB (ifB (beq r6 2) (beq r13 1) false) (beq (land (shiftRight v15 64) 18446744073709551615) 0) false) (
force (xor v15 (shiftLeft (xor (land (shiftRight v15 64) 18446744073709551615) 1) 64)) fun v27 =>
okB (ifB (beq a1 0) false true) <|
force v27 fun v28 =>
force (land (shiftRight m14 a1) 18446744073709551615) fun v29 =>
sf115 a1 a2 v28 v29 m14 t14 s14 d14 fun m30 t30 s30 d30 =>
k m30 t30 s30 d30) <|
k m14 t14 s14 d14
noncomputable def e88 : FunE := ⟨[.ptr (lay 104) false false, .one (.int .u64)], [], wrapF 2 0 sf88⟩
noncomputable def i88 : FI := ⟨92, [4, 6], [4, 5, 6, 7, 9, 14, 26, 36, 52, 53, 54, 55, 71, 74, 77], [(14, e14), (107, e107), (115, e115), (116, e116), (117, e117)], []⟩
def a88 : An := (.sq .reg (.sq .reg (.sq (.drw [(0, 0), (1, 0), (2, 0), (3, 0), (4, 0), (5, 0), (6, 1), (7, 0), (8, 0), (9, 0), (10, 2), (11, 1), (12, 0)]) (.bl (.sq .reg (.cd (.sq (.drw [(0, 0), (1, 0), (2, 0), (3, 0), (4, 0), (5, 0), (6, 0), (8, 0), (9, 0), (10, 0), (11, 0), (12, 0), (15, 0), (7, 1), (13, 1), (14, 0)]) (.bl (.lp [(54, .sh (.one (.int .i64)))] 4 (.sq .reg (.sq (.cd .dead .ex) .dead))))) (.sq .reg (.cd (.sq .reg (.drw [(0, 0), (1, 0), (2, 0), (3, 0), (4, 0), (5, 0), (6, 0), (7, 0), (8, 1)])) .skip))))))))
theorem q88 : AllN 2 fun l => ∀ m t s d k, R.denF i88 a88 (bodyOf Tryz.f88) Tryz.f88.results.toList e88.ps e88.rs l ⟨m, t, s, d⟩ k = wrapF 2 0 sf88 l ⟨m, t, s, d⟩ k := by
  intro x0 x1 m t s d k
  kernel_rfl
theorem ok88 : FunOK Tryz.prog 88 e88 := fun_ok facts mixed (I := i88) (FnsOK.cons ok14 (FnsOK.cons ok107 (FnsOK.cons ok115 (FnsOK.cons ok116 (FnsOK.cons ok117 FnsOK.nil))))) Tryz.func88 (by kernel_rfl) (by kernel_rfl) (by kernel_rfl) (an := a88) (by kernel_rfl) (by kernel_rfl) q88
noncomputable def sf200r : FT 1 2 := fun a1 m t s d k =>
force (shiftLeft t 6) fun v2 =>
force (add t 17) fun t3 =>
okB (ble (succ t3) 4194304) <|
force (xor (land (shiftRight m v2) (mask 17)) (xor (xor (xor (xor (xor (xor (xor (xor (xor (xor (xor (xor (xor (xor (xor 0 212770981145662882167390208) 4281743758682613485051784835097700272684662784) (shiftLeft 13631491 192)) (shiftLeft 5767169 256)) (shiftLeft 10485762 320)) (shiftLeft 7340034 384)) (shiftLeft 7340034 448)) (shiftLeft 5767169 512)) (shiftLeft 5767169 576)) (shiftLeft 5242881 640)) (shiftLeft 5242881 704)) (shiftLeft 12582914 832)) (shiftLeft 6815745 896)) (shiftLeft 8388610 960)) (shiftLeft 9437186 1024))) fun v4 =>
force (xor m (xor (shiftLeft v4 v2) (mod (add v4 v2) 2305843009213693951))) fun m5 =>
okB (ifB (ble (succ (xor a1 9223372036854775808)) 9223372036854775809) true (ifB (ble (succ (xor a1 9223372036854775808)) 9223372036854775809) false true)) <|
ifB (ifB (ble (succ (xor a1 9223372036854775808)) 9223372036854775809) true (ifB (ble (succ (xor a1 9223372036854775808)) 9223372036854775825) false true)) (
false) <|
okB (ble (succ a1) 17) <|
force (land (shiftRight m5 (add v2 (mul a1 64))) 18446744073709551615) fun v6 =>
force (ifB true 1 0) fun v7 =>
k v6 v7 m5 t3 s d
noncomputable def e200r : FunE := ⟨[.one (.int .i64)], [.one .str, .one .bool], wrapF 1 2 sf200r⟩
noncomputable def i200r : FI := ⟨15, [], [2, 3, 4, 8, 11], [], []⟩
def a200r : An := (.sq .reg (.sq .reg (.sq (.sq .reg (.cd .dead .skip)) (.sq .reg .ret))))
theorem q200r : AllN 1 fun l => ∀ m t s d k, R.denF i200r a200r (bodyOf Tryz.f200) Tryz.f200.results.toList e200r.ps e200r.rs l ⟨m, t, s, d⟩ k = wrapF 1 2 sf200r l ⟨m, t, s, d⟩ k := by
  intro x0 m t s d k
  kernel_rfl
theorem ok200r : FunOK Tryz.prog 200 e200r := fun_ok facts mixed (I := i200r) FnsOK.nil Tryz.func200 (by kernel_rfl) (by kernel_rfl) (by kernel_rfl) (an := a200r) (by kernel_rfl) (by kernel_rfl) q200r
noncomputable def sf200 : FT 1 2 := fun a0 m t s d k =>
sf200r a0 m t s d fun r0 r1 m1 t1 s1 d1 =>
ifB (beq (shiftRight m 64) (shiftRight (land (shiftRight m1 0) (mask t)) 64)) (k r0 r1 m t s1 (mod d1 (pow 2 t))) <|
k r0 r1 m1 t1 s1 d1
noncomputable def e200 : FunE := ⟨[.one (.int .i64)], [.one .str, .one .bool], wrapF 1 2 sf200⟩
theorem q200 : AllN 1 fun l => ∀ m t s d k, resetF e200r.rs e200r.f l ⟨m, t, s, d⟩ k = wrapF 1 2 sf200 l ⟨m, t, s, d⟩ k := by
  intro x0 m t s d k
  kernel_rfl
theorem ok200 : FunOK Tryz.prog 200 e200 := FunOK.wrap (FunOK.reset (ps := e200r.ps) (rs := e200r.rs) (F := e200r.f) ok200r) q200
noncomputable def sf271 : FT 1 1 := fun a1 m t s d k =>
okB (ifB (ifB (ble (succ (xor a1 9223372036854775808)) 9223372036854775809) false true) (ifB (ble (succ (xor a1 9223372036854775808)) 9223372036854775809) false true) true) <|
force (ifB (ifB (ifB (ble (succ (xor a1 9223372036854775808)) 9223372036854775809) false true) (ifB (ble 9223372036854775841 (xor a1 9223372036854775808)) false true) false) 1 0) fun v2 =>
k v2 m t s d
noncomputable def e271 : FunE := ⟨[.one (.int .i64)], [.one .bool], wrapF 1 1 sf271⟩
noncomputable def i271 : FI := ⟨9, [], [2, 5], [], []⟩
def a271 : An := (.sq .reg (.sq .reg .ret))
theorem q271 : AllN 1 fun l => ∀ m t s d k, R.denF i271 a271 (bodyOf Tryz.f271) Tryz.f271.results.toList e271.ps e271.rs l ⟨m, t, s, d⟩ k = wrapF 1 1 sf271 l ⟨m, t, s, d⟩ k := by
  intro x0 m t s d k
  kernel_rfl
theorem ok271 : FunOK Tryz.prog 271 e271 := fun_ok facts mixed (I := i271) FnsOK.nil Tryz.func271 (by kernel_rfl) (by kernel_rfl) (by kernel_rfl) (an := a271) (by kernel_rfl) (by kernel_rfl) q271
noncomputable def sf306 : FT 1 1 := fun a1 m t s d k =>
sf310 0 m t s d fun r2 m3 t3 s3 d3 =>
force (ifB (ble (succ (xor r2 9223372036854775808)) 9223372036854775808) 1 0) fun v4 =>
k v4 m3 t3 s3 d3
noncomputable def e306 : FunE := ⟨[.one (.cst 1)], [.one .bool], wrapF 1 1 sf306⟩
noncomputable def i306 : FI := ⟨7, [], [2], [(310, e310)], []⟩
def a306 : An := (.sq .reg (.sq .reg .ret))
theorem q306 : AllN 1 fun l => ∀ m t s d k, R.denF i306 a306 (bodyOf Tryz.f306) Tryz.f306.results.toList e306.ps e306.rs l ⟨m, t, s, d⟩ k = wrapF 1 1 sf306 l ⟨m, t, s, d⟩ k := by
  intro x0 m t s d k
  kernel_rfl
theorem ok306 : FunOK Tryz.prog 306 e306 := fun_ok facts mixed (I := i306) (FnsOK.cons ok310 FnsOK.nil) Tryz.func306 (by kernel_rfl) (by kernel_rfl) (by kernel_rfl) (an := a306) (by kernel_rfl) (by kernel_rfl) q306
noncomputable def sf305 : FT 1 1 := fun a1 m t s d k =>
join (fun (r2 m3 t3 s3 d3 : Nat) =>
okB (ifB true true true) <|
force (ifB (ifB true (beq r2 1) false) 1 0) fun v5 =>
k v5 m3 t3 s3 d3) fun J4 =>
ifB true (
sf306 0 m t s d fun r6 m7 t7 s7 d7 =>
J4 r6 m7 t7 s7 d7) <|
J4 0 m t s d
noncomputable def e305 : FunE := ⟨[.one (.cst 1)], [.one .bool], wrapF 1 1 sf305⟩
noncomputable def i305 : FI := ⟨9, [], [2, 5], [(306, e306)], []⟩
def a305 : An := (.sq .reg (.sq .reg .ret))
theorem q305 : AllN 1 fun l => ∀ m t s d k, R.denF i305 a305 (bodyOf Tryz.f305) Tryz.f305.results.toList e305.ps e305.rs l ⟨m, t, s, d⟩ k = wrapF 1 1 sf305 l ⟨m, t, s, d⟩ k := by
  intro x0 m t s d k
  kernel_rfl
theorem ok305 : FunOK Tryz.prog 305 e305 := fun_ok facts mixed (I := i305) (FnsOK.cons ok306 FnsOK.nil) Tryz.func305 (by kernel_rfl) (by kernel_rfl) (by kernel_rfl) (an := a305) (by kernel_rfl) (by kernel_rfl) q305
noncomputable def sf272 : FT 1 1 := fun a1 m t s d k =>
ifB (beq 306 306) (
sf305 0 m t s d fun r2 m3 t3 s3 d3 =>
join (fun (r4 m5 t5 s5 d5 : Nat) =>
okB (ifB (ifB (beq r2 1) false true) (ifB (beq r2 1) false true) true) <|
force (ifB (ifB (ifB (beq r2 1) false true) (ifB (beq r4 1) false true) false) 1 0) fun v7 =>
k v7 m5 t5 s5 d5) fun J6 =>
ifB (ifB (beq r2 1) false true) (
ifB (beq 306 306) (
sf305 0 m3 t3 s3 d3 fun r8 m9 t9 s9 d9 =>
J6 r8 m9 t9 s9 d9) <|
false) <|
J6 0 m3 t3 s3 d3) <|
false
noncomputable def e272 : FunE := ⟨[.one (.cst 0)], [.one .bool], wrapF 1 1 sf272⟩
noncomputable def i272 : FI := ⟨16, [], [2, 3, 9], [(305, e305)], [(7, [305]), (13, [305])]⟩
def a272 : An := (.sq .reg (.sq .reg (.sq .reg .ret)))
theorem q272 : AllN 1 fun l => ∀ m t s d k, R.denF i272 a272 (bodyOf Tryz.f272) Tryz.f272.results.toList e272.ps e272.rs l ⟨m, t, s, d⟩ k = wrapF 1 1 sf272 l ⟨m, t, s, d⟩ k := by
  intro x0 m t s d k
  kernel_rfl
theorem ok272 : FunOK Tryz.prog 272 e272 := fun_ok facts mixed (I := i272) (FnsOK.cons ok305 FnsOK.nil) Tryz.func272 (by kernel_rfl) (by kernel_rfl) (by kernel_rfl) (an := a272) (by kernel_rfl) (by kernel_rfl) q272
noncomputable def sf274 : FT 1 1 := fun a1 m t s d k =>
okB (ifB (beq a1 13) true (ifB (beq a1 13) false true)) <|
ifB (ifB (beq a1 13) true (beq a1 15)) (
k 32 m t s d) <|
k 8 m t s d
noncomputable def e274 : FunE := ⟨[.one (.int .i64)], [.one (.int .i64)], wrapF 1 1 sf274⟩
noncomputable def i274 : FI := ⟨9, [], [2, 5, 8], [], []⟩
def a274 : An := (.sq .reg (.sq (.sq .reg (.cd (.sq .reg .ret) .skip)) (.sq .reg .ret)))
theorem q274 : AllN 1 fun l => ∀ m t s d k, R.denF i274 a274 (bodyOf Tryz.f274) Tryz.f274.results.toList e274.ps e274.rs l ⟨m, t, s, d⟩ k = wrapF 1 1 sf274 l ⟨m, t, s, d⟩ k := by
  intro x0 m t s d k
  kernel_rfl
theorem ok274 : FunOK Tryz.prog 274 e274 := fun_ok facts mixed (I := i274) FnsOK.nil Tryz.func274 (by kernel_rfl) (by kernel_rfl) (by kernel_rfl) (an := a274) (by kernel_rfl) (by kernel_rfl) q274
noncomputable def sf273 : FT 1 1 := fun a1 m t s d k =>
force a1 fun v2 =>
force v2 fun v3 =>
sf80 v3 m t s d fun r4 m5 t5 s5 d5 =>
force (ifB (ifB (beq r4 1) false true) 1 0) fun v6 =>
k v6 m5 t5 s5 d5
noncomputable def e273 : FunE := ⟨[.agg (lay 53)], [.one .bool], wrapF 1 1 sf273⟩
noncomputable def i273 : FI := ⟨6, [1], [1, 2], [(80, e80)], []⟩
def a273 : An := (.sq .reg (.sq .reg .ret))
theorem q273 : AllN 1 fun l => ∀ m t s d k, R.denF i273 a273 (bodyOf Tryz.f273) Tryz.f273.results.toList e273.ps e273.rs l ⟨m, t, s, d⟩ k = wrapF 1 1 sf273 l ⟨m, t, s, d⟩ k := by
  intro x0 m t s d k
  kernel_rfl
theorem ok273 : FunOK Tryz.prog 273 e273 := fun_ok facts mixed (I := i273) (FnsOK.cons ok80 FnsOK.nil) Tryz.func273 (by kernel_rfl) (by kernel_rfl) (by kernel_rfl) (an := a273) (by kernel_rfl) (by kernel_rfl) q273
noncomputable def sf307 : FT 2 1 := fun a1 a2 m t s d k =>
join (fun (m3 t3 s3 d3 : Nat) =>
k 18446744073709551615 m3 t3 s3 d3) fun J4 =>
force (land (shiftRight a1 28) 131071) fun v5 =>
loopN 6 (fun (_ _ _ _ _ : Nat) => false) (fun L8 (p6 m7 t7 s7 d7 : Nat) =>
ifB (ble (succ (xor p6 9223372036854775808)) (xor v5 9223372036854775808)) (
okB (ble (succ p6) (land (shiftRight a1 28) 131071)) <|
okB (beq (land (shiftRight d7 (shiftRight (add (land a1 268435455) (mul p6 320)) 6)) 31) 0) <|
ifB (beq (land a2 1023) 274) (
force (land (shiftRight m7 (add (land a1 268435455) (mul p6 320))) (mask 5)) fun v9 =>
sf273 v9 m7 t7 s7 d7 fun r10 m11 t11 s11 d11 =>
ifB (beq r10 1) (
false) <|
force (mod (add p6 1) 18446744073709551616) fun v12 =>
L8 v12 m11 t11 s11 d11) <|
false) <|
J4 m7 t7 s7 d7) 0 m t s d
noncomputable def e307 : FunE := ⟨[.sli (lay 53), .one .fn], [.one (.int .i64)], wrapF 2 1 sf307⟩
noncomputable def i307 : FI := ⟨19, [], [4, 5, 7, 8, 9, 16], [(273, e273)], [(16, [273])]⟩
def a307 : An := (.sq .reg (.sj [] (.sq .reg (.bl (.lp [(8, .sh (.one (.int .i64)))] 6 (.sq .reg (.sq (.cd .skip .ex) (.sq (.bl (.sq .reg (.sq .reg (.cd .dead .skip)))) .reg)))))) (.sq .reg .ret)))
theorem q307 : AllN 2 fun l => ∀ m t s d k, R.denF i307 a307 (bodyOf Tryz.f307) Tryz.f307.results.toList e307.ps e307.rs l ⟨m, t, s, d⟩ k = wrapF 2 1 sf307 l ⟨m, t, s, d⟩ k := by
  intro x0 x1 m t s d k
  kernel_rfl
theorem ok307 : FunOK Tryz.prog 307 e307 := fun_ok facts mixed (I := i307) (FnsOK.cons ok273 FnsOK.nil) Tryz.func307 (by kernel_rfl) (by kernel_rfl) (by kernel_rfl) (an := a307) (by kernel_rfl) (by kernel_rfl) q307
noncomputable def sf275 : FT 2 1 := fun a1 a2 m t s d k =>
sf307 a1 a2 m t s d fun r3 m4 t4 s4 d4 =>
force (ifB (ifB (ble (succ (xor r3 9223372036854775808)) 9223372036854775808) false true) 1 0) fun v5 =>
k v5 m4 t4 s4 d4
noncomputable def e275 : FunE := ⟨[.sli (lay 53), .one .fn], [.one .bool], wrapF 2 1 sf275⟩
noncomputable def i275 : FI := ⟨9, [], [4], [(307, e307)], []⟩
def a275 : An := (.sq .reg (.sq .reg .ret))
theorem q275 : AllN 2 fun l => ∀ m t s d k, R.denF i275 a275 (bodyOf Tryz.f275) Tryz.f275.results.toList e275.ps e275.rs l ⟨m, t, s, d⟩ k = wrapF 2 1 sf275 l ⟨m, t, s, d⟩ k := by
  intro x0 x1 m t s d k
  kernel_rfl
theorem ok275 : FunOK Tryz.prog 275 e275 := fun_ok facts mixed (I := i275) (FnsOK.cons ok307 FnsOK.nil) Tryz.func275 (by kernel_rfl) (by kernel_rfl) (by kernel_rfl) (an := a275) (by kernel_rfl) (by kernel_rfl) q275
noncomputable def sf334 : FT 2 1 := fun a1 a2 m t s d k =>
sf342 a1 a2 m t s d fun r3 m4 t4 s4 d4 =>
k r3 m4 t4 s4 d4
noncomputable def e334 : FunE := ⟨[.one .str, .one (.int .u8)], [.one (.int .i64)], wrapF 2 1 sf334⟩
noncomputable def i334 : FI := ⟨8, [], [4], [(342, e342)], []⟩
def a334 : An := (.sq .reg (.sq .reg .ret))
theorem q334 : AllN 2 fun l => ∀ m t s d k, R.denF i334 a334 (bodyOf Tryz.f334) Tryz.f334.results.toList e334.ps e334.rs l ⟨m, t, s, d⟩ k = wrapF 2 1 sf334 l ⟨m, t, s, d⟩ k := by
  intro x0 x1 m t s d k
  kernel_rfl
theorem ok334 : FunOK Tryz.prog 334 e334 := fun_ok facts mixed (I := i334) (FnsOK.cons ok342 FnsOK.nil) Tryz.func334 (by kernel_rfl) (by kernel_rfl) (by kernel_rfl) (an := a334) (by kernel_rfl) (by kernel_rfl) q334
noncomputable def sf322 : FT 2 1 := fun a1 a2 m t s d k =>
force (land a2 65535) fun v3 =>
okB (ifB (beq v3 0) true (ifB (beq v3 0) false true)) <|
ifB (ifB (beq v3 0) true (beq (add (land (shiftRight s (shiftRight a2 16)) (sub (shiftLeft 1 (shiftLeft (land a2 65535) 3)) 1)) (shiftLeft 1 (shiftLeft (land a2 65535) 3))) (add (land (shiftRight s (shiftRight a1 16)) (sub (shiftLeft 1 (shiftLeft (land a1 65535) 3)) 1)) (shiftLeft 1 (shiftLeft (land a1 65535) 3))))) (
k 0 m t s d) <|
ifB (beq v3 1) (
okB (ble 1 (land a2 65535)) <|
force (land (shiftRight s (add (shiftRight a2 16) 0)) 255) fun v4 =>
sf334 a1 v4 m t s d fun r5 m6 t6 s6 d6 =>
k r5 m6 t6 s6 d6) <|
false
noncomputable def e322 : FunE := ⟨[.one .str, .one .str], [.one (.int .i64)], wrapF 2 1 sf322⟩
noncomputable def i322 : FI := ⟨143, [], [4, 5, 6, 7, 8, 9, 10, 11, 12, 13, 16, 19, 24, 31, 36, 40, 59, 64, 73, 84, 93, 102, 107, 114, 121, 128, 132, 139], [(334, e334)], []⟩
def a322 : An := (.sq .reg (.sq .reg (.sq (.bl (.sq .reg (.cd (.sq .reg .ret) (.sq .reg (.cd (.sq .reg .ret) .dead))))) .dead)))
theorem q322 : AllN 2 fun l => ∀ m t s d k, R.denF i322 a322 (bodyOf Tryz.f322) Tryz.f322.results.toList e322.ps e322.rs l ⟨m, t, s, d⟩ k = wrapF 2 1 sf322 l ⟨m, t, s, d⟩ k := by
  intro x0 x1 m t s d k
  kernel_rfl
theorem ok322 : FunOK Tryz.prog 322 e322 := fun_ok facts mixed (I := i322) (FnsOK.cons ok334 FnsOK.nil) Tryz.func322 (by kernel_rfl) (by kernel_rfl) (by kernel_rfl) (an := a322) (by kernel_rfl) (by kernel_rfl) q322
noncomputable def sf308 : FT 2 1 := fun a1 a2 m t s d k =>
sf322 a1 a2 m t s d fun r3 m4 t4 s4 d4 =>
k r3 m4 t4 s4 d4
noncomputable def e308 : FunE := ⟨[.one .str, .one .str], [.one (.int .i64)], wrapF 2 1 sf308⟩
noncomputable def i308 : FI := ⟨8, [], [4], [(322, e322)], []⟩
def a308 : An := (.sq .reg (.sq .reg .ret))
theorem q308 : AllN 2 fun l => ∀ m t s d k, R.denF i308 a308 (bodyOf Tryz.f308) Tryz.f308.results.toList e308.ps e308.rs l ⟨m, t, s, d⟩ k = wrapF 2 1 sf308 l ⟨m, t, s, d⟩ k := by
  intro x0 x1 m t s d k
  kernel_rfl
theorem ok308 : FunOK Tryz.prog 308 e308 := fun_ok facts mixed (I := i308) (FnsOK.cons ok322 FnsOK.nil) Tryz.func308 (by kernel_rfl) (by kernel_rfl) (by kernel_rfl) (an := a308) (by kernel_rfl) (by kernel_rfl) q308
noncomputable def sf276 : FT 2 1 := fun a1 a2 m t s d k =>
sf308 a1 a2 m t s d fun r3 m4 t4 s4 d4 =>
force (ifB (ifB (ble (succ (xor r3 9223372036854775808)) 9223372036854775808) false true) 1 0) fun v5 =>
k v5 m4 t4 s4 d4
noncomputable def e276 : FunE := ⟨[.one .str, .one .str], [.one .bool], wrapF 2 1 sf276⟩
noncomputable def i276 : FI := ⟨9, [], [4], [(308, e308)], []⟩
def a276 : An := (.sq .reg (.sq .reg .ret))
theorem q276 : AllN 2 fun l => ∀ m t s d k, R.denF i276 a276 (bodyOf Tryz.f276) Tryz.f276.results.toList e276.ps e276.rs l ⟨m, t, s, d⟩ k = wrapF 2 1 sf276 l ⟨m, t, s, d⟩ k := by
  intro x0 x1 m t s d k
  kernel_rfl
theorem ok276 : FunOK Tryz.prog 276 e276 := fun_ok facts mixed (I := i276) (FnsOK.cons ok308 FnsOK.nil) Tryz.func276 (by kernel_rfl) (by kernel_rfl) (by kernel_rfl) (an := a276) (by kernel_rfl) (by kernel_rfl) q276
noncomputable def sf214 : FT 1 1 := fun a1 m t s d k =>
force a1 fun v2 =>
force (land (shiftRight v2 0) 18446744073709551615) fun v3 =>
sf200 v3 m t s d fun r4 r5 m6 t6 s6 d6 =>
join (fun (r7 m8 t8 s8 d8 : Nat) =>
okB (ifB (ifB (beq r5 1) false true) true (ifB (ifB (beq r5 1) false true) false true)) <|
join (fun (r10 m11 t11 s11 d11 : Nat) =>
okB (ifB (ifB (ifB (beq r5 1) false true) true (ifB (beq r7 1) false true)) true (ifB (ifB (ifB (beq r5 1) false true) true (ifB (beq r7 1) false true)) false true)) <|
ifB (ifB (ifB (ifB (beq r5 1) false true) true (ifB (beq r7 1) false true)) true (ifB (beq r10 1) false true)) (
false) <|
force (land (shiftRight v2 192) 18446744073709551615) fun v13 =>
sf271 v13 m11 t11 s11 d11 fun r14 m15 t15 s15 d15 =>
okB (beq (land (shiftRight v2 0) 18446744073709551615) (land (shiftRight v2 0) 18446744073709551615)) <|
okB (beq (land (shiftRight v2 576) 18446744073709551615) (land (shiftRight v2 576) 18446744073709551615)) <|
okB (beq (land (shiftRight v2 576) 18446744073709551615) (land (shiftRight v2 576) 18446744073709551615)) <|
okB (ifB (ifB (beq (add (land (shiftRight s15 (shiftRight (land (shiftRight v2 512) 18446744073709551615) 16)) (sub (shiftLeft 1 (shiftLeft (land (land (shiftRight v2 512) 18446744073709551615) 65535) 3)) 1)) (shiftLeft 1 (shiftLeft (land (land (shiftRight v2 512) 18446744073709551615) 65535) 3))) (add (land (shiftRight s15 0) 0) 1)) false true) (ifB (beq (add (land (shiftRight s11 (shiftRight (land (shiftRight v2 512) 18446744073709551615) 16)) (sub (shiftLeft 1 (shiftLeft (land (land (shiftRight v2 512) 18446744073709551615) 65535) 3)) 1)) (shiftLeft 1 (shiftLeft (land (land (shiftRight v2 512) 18446744073709551615) 65535) 3))) (add (land (shiftRight s11 0) 0) 1)) false true) (ifB (ifB (beq (add (land (shiftRight s11 (shiftRight (land (shiftRight v2 512) 18446744073709551615) 16)) (sub (shiftLeft 1 (shiftLeft (land (land (shiftRight v2 512) 18446744073709551615) 65535) 3)) 1)) (shiftLeft 1 (shiftLeft (land (land (shiftRight v2 512) 18446744073709551615) 65535) 3))) (add (land (shiftRight s11 0) 0) 1)) false true) false true)) <|
okB (beq (land (shiftRight v2 512) 18446744073709551615) (land (shiftRight v2 512) 18446744073709551615)) <|
okB (ifB (beq (add (land (shiftRight s15 (shiftRight (land (shiftRight v2 512) 18446744073709551615) 16)) (sub (shiftLeft 1 (shiftLeft (land (land (shiftRight v2 512) 18446744073709551615) 65535) 3)) 1)) (shiftLeft 1 (shiftLeft (land (land (shiftRight v2 512) 18446744073709551615) 65535) 3))) (add (land (shiftRight s15 0) 0) 1)) (beq (add (land (shiftRight s11 (shiftRight (land (shiftRight v2 512) 18446744073709551615) 16)) (sub (shiftLeft 1 (shiftLeft (land (land (shiftRight v2 512) 18446744073709551615) 65535) 3)) 1)) (shiftLeft 1 (shiftLeft (land (land (shiftRight v2 512) 18446744073709551615) 65535) 3))) (add (land (shiftRight s11 0) 0) 1)) (ifB (beq (add (land (shiftRight s11 (shiftRight (land (shiftRight v2 512) 18446744073709551615) 16)) (sub (shiftLeft 1 (shiftLeft (land (land (shiftRight v2 512) 18446744073709551615) 65535) 3)) 1)) (shiftLeft 1 (shiftLeft (land (land (shiftRight v2 512) 18446744073709551615) 65535) 3))) (add (land (shiftRight s11 0) 0) 1)) false true)) <|
okB (beq (land (shiftRight v2 512) 18446744073709551615) (land (shiftRight v2 512) 18446744073709551615)) <|
okB (beq (land (shiftRight v2 448) 18446744073709551615) (land (shiftRight v2 448) 18446744073709551615)) <|
okB true <|
okB true <|
okB (beq (land (shiftRight v2 256) 340282366920938463463374607431768211455) (land (shiftRight v2 256) 340282366920938463463374607431768211455)) <|
okB (beq (land (shiftRight v2 256) 340282366920938463463374607431768211455) (land (shiftRight v2 256) 340282366920938463463374607431768211455)) <|
okB (beq (land (shiftRight v2 192) 18446744073709551615) (land (shiftRight v2 192) 18446744073709551615)) <|
force (land (shiftRight v2 256) 340282366920938463463374607431768211455) fun v16 =>
sf57 v16 m15 t15 s15 d15 fun r17 m18 t18 s18 d18 =>
okB (beq (land (shiftRight v2 0) 18446744073709551615) (land (shiftRight v2 0) 18446744073709551615)) <|
okB (beq (land (shiftRight v2 576) 18446744073709551615) (land (shiftRight v2 576) 18446744073709551615)) <|
okB (beq (land (shiftRight v2 576) 18446744073709551615) (land (shiftRight v2 576) 18446744073709551615)) <|
okB (ifB (ifB (beq (add (land (shiftRight s18 (shiftRight (land (shiftRight v2 512) 18446744073709551615) 16)) (sub (shiftLeft 1 (shiftLeft (land (land (shiftRight v2 512) 18446744073709551615) 65535) 3)) 1)) (shiftLeft 1 (shiftLeft (land (land (shiftRight v2 512) 18446744073709551615) 65535) 3))) (add (land (shiftRight s18 0) 0) 1)) false true) (ifB (beq (add (land (shiftRight s11 (shiftRight (land (shiftRight v2 512) 18446744073709551615) 16)) (sub (shiftLeft 1 (shiftLeft (land (land (shiftRight v2 512) 18446744073709551615) 65535) 3)) 1)) (shiftLeft 1 (shiftLeft (land (land (shiftRight v2 512) 18446744073709551615) 65535) 3))) (add (land (shiftRight s11 0) 0) 1)) false true) (ifB (ifB (beq (add (land (shiftRight s11 (shiftRight (land (shiftRight v2 512) 18446744073709551615) 16)) (sub (shiftLeft 1 (shiftLeft (land (land (shiftRight v2 512) 18446744073709551615) 65535) 3)) 1)) (shiftLeft 1 (shiftLeft (land (land (shiftRight v2 512) 18446744073709551615) 65535) 3))) (add (land (shiftRight s11 0) 0) 1)) false true) false true)) <|
okB (beq (land (shiftRight v2 512) 18446744073709551615) (land (shiftRight v2 512) 18446744073709551615)) <|
okB (ifB (beq (add (land (shiftRight s18 (shiftRight (land (shiftRight v2 512) 18446744073709551615) 16)) (sub (shiftLeft 1 (shiftLeft (land (land (shiftRight v2 512) 18446744073709551615) 65535) 3)) 1)) (shiftLeft 1 (shiftLeft (land (land (shiftRight v2 512) 18446744073709551615) 65535) 3))) (add (land (shiftRight s18 0) 0) 1)) (beq (add (land (shiftRight s11 (shiftRight (land (shiftRight v2 512) 18446744073709551615) 16)) (sub (shiftLeft 1 (shiftLeft (land (land (shiftRight v2 512) 18446744073709551615) 65535) 3)) 1)) (shiftLeft 1 (shiftLeft (land (land (shiftRight v2 512) 18446744073709551615) 65535) 3))) (add (land (shiftRight s11 0) 0) 1)) (ifB (beq (add (land (shiftRight s11 (shiftRight (land (shiftRight v2 512) 18446744073709551615) 16)) (sub (shiftLeft 1 (shiftLeft (land (land (shiftRight v2 512) 18446744073709551615) 65535) 3)) 1)) (shiftLeft 1 (shiftLeft (land (land (shiftRight v2 512) 18446744073709551615) 65535) 3))) (add (land (shiftRight s11 0) 0) 1)) false true)) <|
okB (beq (land (shiftRight v2 512) 18446744073709551615) (land (shiftRight v2 512) 18446744073709551615)) <|
okB (beq (land (shiftRight v2 448) 18446744073709551615) (land (shiftRight v2 448) 18446744073709551615)) <|
okB true <|
okB true <|
okB (beq (land (shiftRight v2 256) 340282366920938463463374607431768211455) (land (shiftRight v2 256) 340282366920938463463374607431768211455)) <|
okB (beq (land (shiftRight v2 192) 18446744073709551615) (land (shiftRight v2 192) 18446744073709551615)) <|
sf40 0 m18 t18 s18 d18 fun r19 m20 t20 s20 d20 =>
okB (beq (land (shiftRight v2 0) 18446744073709551615) (land (shiftRight v2 0) 18446744073709551615)) <|
okB (beq (land (shiftRight v2 576) 18446744073709551615) (land (shiftRight v2 576) 18446744073709551615)) <|
okB (beq (land (shiftRight v2 576) 18446744073709551615) (land (shiftRight v2 576) 18446744073709551615)) <|
okB (ifB (ifB (beq (add (land (shiftRight s20 (shiftRight (land (shiftRight v2 512) 18446744073709551615) 16)) (sub (shiftLeft 1 (shiftLeft (land (land (shiftRight v2 512) 18446744073709551615) 65535) 3)) 1)) (shiftLeft 1 (shiftLeft (land (land (shiftRight v2 512) 18446744073709551615) 65535) 3))) (add (land (shiftRight s20 0) 0) 1)) false true) (ifB (beq (add (land (shiftRight s11 (shiftRight (land (shiftRight v2 512) 18446744073709551615) 16)) (sub (shiftLeft 1 (shiftLeft (land (land (shiftRight v2 512) 18446744073709551615) 65535) 3)) 1)) (shiftLeft 1 (shiftLeft (land (land (shiftRight v2 512) 18446744073709551615) 65535) 3))) (add (land (shiftRight s11 0) 0) 1)) false true) (ifB (ifB (beq (add (land (shiftRight s11 (shiftRight (land (shiftRight v2 512) 18446744073709551615) 16)) (sub (shiftLeft 1 (shiftLeft (land (land (shiftRight v2 512) 18446744073709551615) 65535) 3)) 1)) (shiftLeft 1 (shiftLeft (land (land (shiftRight v2 512) 18446744073709551615) 65535) 3))) (add (land (shiftRight s11 0) 0) 1)) false true) false true)) <|
okB (beq (land (shiftRight v2 512) 18446744073709551615) (land (shiftRight v2 512) 18446744073709551615)) <|
okB (ifB (beq (add (land (shiftRight s20 (shiftRight (land (shiftRight v2 512) 18446744073709551615) 16)) (sub (shiftLeft 1 (shiftLeft (land (land (shiftRight v2 512) 18446744073709551615) 65535) 3)) 1)) (shiftLeft 1 (shiftLeft (land (land (shiftRight v2 512) 18446744073709551615) 65535) 3))) (add (land (shiftRight s20 0) 0) 1)) (beq (add (land (shiftRight s11 (shiftRight (land (shiftRight v2 512) 18446744073709551615) 16)) (sub (shiftLeft 1 (shiftLeft (land (land (shiftRight v2 512) 18446744073709551615) 65535) 3)) 1)) (shiftLeft 1 (shiftLeft (land (land (shiftRight v2 512) 18446744073709551615) 65535) 3))) (add (land (shiftRight s11 0) 0) 1)) (ifB (beq (add (land (shiftRight s11 (shiftRight (land (shiftRight v2 512) 18446744073709551615) 16)) (sub (shiftLeft 1 (shiftLeft (land (land (shiftRight v2 512) 18446744073709551615) 65535) 3)) 1)) (shiftLeft 1 (shiftLeft (land (land (shiftRight v2 512) 18446744073709551615) 65535) 3))) (add (land (shiftRight s11 0) 0) 1)) false true)) <|
okB (beq (land (shiftRight v2 512) 18446744073709551615) (land (shiftRight v2 512) 18446744073709551615)) <|
okB (beq (land (shiftRight v2 448) 18446744073709551615) (land (shiftRight v2 448) 18446744073709551615)) <|
okB true <|
okB (beq (land (shiftRight v2 256) 340282366920938463463374607431768211455) (land (shiftRight v2 256) 340282366920938463463374607431768211455)) <|
okB (beq (land (shiftRight v2 192) 18446744073709551615) (land (shiftRight v2 192) 18446744073709551615)) <|
okB (ifB (ifB (beq (add (land (shiftRight s11 (shiftRight (land (shiftRight v2 512) 18446744073709551615) 16)) (sub (shiftLeft 1 (shiftLeft (land (land (shiftRight v2 512) 18446744073709551615) 65535) 3)) 1)) (shiftLeft 1 (shiftLeft (land (land (shiftRight v2 512) 18446744073709551615) 65535) 3))) (add (land (shiftRight s11 0) 0) 1)) false true) (ifB (beq (add (land (shiftRight s11 (shiftRight (land (shiftRight v2 512) 18446744073709551615) 16)) (sub (shiftLeft 1 (shiftLeft (land (land (shiftRight v2 512) 18446744073709551615) 65535) 3)) 1)) (shiftLeft 1 (shiftLeft (land (land (shiftRight v2 512) 18446744073709551615) 65535) 3))) (add (land (shiftRight s11 0) 0) 1)) false true) true) <|
force (land (shiftRight v2 0) 18446744073709551615) fun v21 =>
sf274 v21 m20 t20 s20 d20 fun r22 m23 t23 s23 d23 =>
okB (ifB (ifB (beq (add (land (shiftRight s11 (shiftRight (land (shiftRight v2 512) 18446744073709551615) 16)) (sub (shiftLeft 1 (shiftLeft (land (land (shiftRight v2 512) 18446744073709551615) 65535) 3)) 1)) (shiftLeft 1 (shiftLeft (land (land (shiftRight v2 512) 18446744073709551615) 65535) 3))) (add (land (shiftRight s11 0) 0) 1)) false true) (beq (land (shiftRight v2 512) 18446744073709551615) (land (shiftRight v2 512) 18446744073709551615)) true) <|
okB (beq (land (shiftRight v2 576) 18446744073709551615) (land (shiftRight v2 576) 18446744073709551615)) <|
okB (beq (land (shiftRight v2 576) 18446744073709551615) (land (shiftRight v2 576) 18446744073709551615)) <|
okB (ifB (beq (add (land (shiftRight s23 (shiftRight (land (shiftRight v2 512) 18446744073709551615) 16)) (sub (shiftLeft 1 (shiftLeft (land (land (shiftRight v2 512) 18446744073709551615) 65535) 3)) 1)) (shiftLeft 1 (shiftLeft (land (land (shiftRight v2 512) 18446744073709551615) 65535) 3))) (add (land (shiftRight s23 0) 0) 1)) (beq (add (land (shiftRight s11 (shiftRight (land (shiftRight v2 512) 18446744073709551615) 16)) (sub (shiftLeft 1 (shiftLeft (land (land (shiftRight v2 512) 18446744073709551615) 65535) 3)) 1)) (shiftLeft 1 (shiftLeft (land (land (shiftRight v2 512) 18446744073709551615) 65535) 3))) (add (land (shiftRight s11 0) 0) 1)) (ifB (beq (add (land (shiftRight s11 (shiftRight (land (shiftRight v2 512) 18446744073709551615) 16)) (sub (shiftLeft 1 (shiftLeft (land (land (shiftRight v2 512) 18446744073709551615) 65535) 3)) 1)) (shiftLeft 1 (shiftLeft (land (land (shiftRight v2 512) 18446744073709551615) 65535) 3))) (add (land (shiftRight s11 0) 0) 1)) false true)) <|
okB (beq (land (shiftRight v2 512) 18446744073709551615) (land (shiftRight v2 512) 18446744073709551615)) <|
okB (beq (land (shiftRight v2 448) 18446744073709551615) (land (shiftRight v2 448) 18446744073709551615)) <|
okB true <|
okB (beq (land (shiftRight v2 256) 340282366920938463463374607431768211455) (land (shiftRight v2 256) 340282366920938463463374607431768211455)) <|
okB (beq (land (shiftRight v2 192) 18446744073709551615) (land (shiftRight v2 192) 18446744073709551615)) <|
join (fun (r24 m25 t25 s25 d25 : Nat) =>
okB (ifB (ifB (beq (add (land (shiftRight s11 (shiftRight (land (shiftRight v2 512) 18446744073709551615) 16)) (sub (shiftLeft 1 (shiftLeft (land (land (shiftRight v2 512) 18446744073709551615) 65535) 3)) 1)) (shiftLeft 1 (shiftLeft (land (land (shiftRight v2 512) 18446744073709551615) 65535) 3))) (add (land (shiftRight s11 0) 0) 1)) false true) (beq (land (shiftRight v2 512) 18446744073709551615) (land (shiftRight v2 512) 18446744073709551615)) true) <|
okB (beq (land (shiftRight v2 576) 18446744073709551615) (land (shiftRight v2 576) 18446744073709551615)) <|
okB (ifB (beq (add (land (shiftRight s25 (shiftRight (land (shiftRight v2 512) 18446744073709551615) 16)) (sub (shiftLeft 1 (shiftLeft (land (land (shiftRight v2 512) 18446744073709551615) 65535) 3)) 1)) (shiftLeft 1 (shiftLeft (land (land (shiftRight v2 512) 18446744073709551615) 65535) 3))) (add (land (shiftRight s25 0) 0) 1)) (beq (add (land (shiftRight s11 (shiftRight (land (shiftRight v2 512) 18446744073709551615) 16)) (sub (shiftLeft 1 (shiftLeft (land (land (shiftRight v2 512) 18446744073709551615) 65535) 3)) 1)) (shiftLeft 1 (shiftLeft (land (land (shiftRight v2 512) 18446744073709551615) 65535) 3))) (add (land (shiftRight s11 0) 0) 1)) (ifB (beq (add (land (shiftRight s11 (shiftRight (land (shiftRight v2 512) 18446744073709551615) 16)) (sub (shiftLeft 1 (shiftLeft (land (land (shiftRight v2 512) 18446744073709551615) 65535) 3)) 1)) (shiftLeft 1 (shiftLeft (land (land (shiftRight v2 512) 18446744073709551615) 65535) 3))) (add (land (shiftRight s11 0) 0) 1)) false true)) <|
okB (beq (land (shiftRight v2 512) 18446744073709551615) (land (shiftRight v2 512) 18446744073709551615)) <|
okB (beq (land (shiftRight v2 448) 18446744073709551615) (land (shiftRight v2 448) 18446744073709551615)) <|
okB true <|
okB (beq (land (shiftRight v2 256) 340282366920938463463374607431768211455) (land (shiftRight v2 256) 340282366920938463463374607431768211455)) <|
okB (beq (land (shiftRight v2 192) 18446744073709551615) (land (shiftRight v2 192) 18446744073709551615)) <|
okB (ifB (ifB (ble (succ (xor r22 9223372036854775808)) (xor (land (shiftRight (land (shiftRight v2 576) 18446744073709551615) 28) 131071) 9223372036854775808)) false true) (ifB (ble (succ (xor r22 9223372036854775808)) (xor (land (shiftRight (land (shiftRight v2 576) 18446744073709551615) 28) 131071) 9223372036854775808)) false true) true) <|
force (shiftLeft t25 6) fun v27 =>
force (add t25 18) fun t28 =>
okB (ble (succ t28) 4194304) <|
force (xor m25 (xor (shiftLeft (xor (xor (xor (xor (xor (xor (xor 5767169 (shiftLeft (ifB (beq (land (shiftRight v2 192) 18446744073709551615) 0) 1 0) 64)) (shiftLeft r14 128)) (shiftLeft (xor (xor 4194305 (shiftLeft (ifB (beq (land (shiftRight v2 256) 340282366920938463463374607431768211455) 0) 1 0) 64)) (shiftLeft (ifB (ifB (beq r17 1) false true) 1 0) 128)) 192)) (shiftLeft (xor (xor 6291457 (shiftLeft (ifB true 1 0) 64)) (shiftLeft r19 128)) 384)) (shiftLeft (xor (xor 5242881 (shiftLeft (ifB (ifB (beq (land (shiftRight v2 448) 18446744073709551615) 1) false true) 1 0) 64)) (shiftLeft (ifB true 1 0) 128)) 576)) (shiftLeft (xor (xor 4718593 (shiftLeft (ifB (beq (add (land (shiftRight s11 (shiftRight (land (shiftRight v2 512) 18446744073709551615) 16)) (sub (shiftLeft 1 (shiftLeft (land (land (shiftRight v2 512) 18446744073709551615) 65535) 3)) 1)) (shiftLeft 1 (shiftLeft (land (land (shiftRight v2 512) 18446744073709551615) 65535) 3))) (add (land (shiftRight s11 0) 0) 1)) 1 0) 64)) (shiftLeft (ifB (ifB (ifB (beq (add (land (shiftRight s11 (shiftRight (land (shiftRight v2 512) 18446744073709551615) 16)) (sub (shiftLeft 1 (shiftLeft (land (land (shiftRight v2 512) 18446744073709551615) 65535) 3)) 1)) (shiftLeft 1 (shiftLeft (land (land (shiftRight v2 512) 18446744073709551615) 65535) 3))) (add (land (shiftRight s11 0) 0) 1)) false true) (ifB (ble 9223372036854776709 (xor (land (land (shiftRight v2 512) 18446744073709551615) 65535) 9223372036854775808)) false true) false) 1 0) 128)) 768)) (shiftLeft (xor (xor 6815745 (shiftLeft (ifB (beq (land (shiftRight (land (shiftRight v2 576) 18446744073709551615) 28) 131071) 0) 1 0) 64)) (shiftLeft (ifB (ifB (ifB (ble (succ (xor r22 9223372036854775808)) (xor (land (shiftRight (land (shiftRight v2 576) 18446744073709551615) 28) 131071) 9223372036854775808)) false true) (ifB (beq r24 1) false true) false) 1 0) 128)) 960)) (shiftLeft t25 6)) (mod (add (xor (xor (xor (xor (xor (xor (xor 5767169 (shiftLeft (ifB (beq (land (shiftRight v2 192) 18446744073709551615) 0) 1 0) 64)) (shiftLeft r14 128)) (shiftLeft (xor (xor 4194305 (shiftLeft (ifB (beq (land (shiftRight v2 256) 340282366920938463463374607431768211455) 0) 1 0) 64)) (shiftLeft (ifB (ifB (beq r17 1) false true) 1 0) 128)) 192)) (shiftLeft (xor (xor 6291457 (shiftLeft (ifB true 1 0) 64)) (shiftLeft r19 128)) 384)) (shiftLeft (xor (xor 5242881 (shiftLeft (ifB (ifB (beq (land (shiftRight v2 448) 18446744073709551615) 1) false true) 1 0) 64)) (shiftLeft (ifB true 1 0) 128)) 576)) (shiftLeft (xor (xor 4718593 (shiftLeft (ifB (beq (add (land (shiftRight s11 (shiftRight (land (shiftRight v2 512) 18446744073709551615) 16)) (sub (shiftLeft 1 (shiftLeft (land (land (shiftRight v2 512) 18446744073709551615) 65535) 3)) 1)) (shiftLeft 1 (shiftLeft (land (land (shiftRight v2 512) 18446744073709551615) 65535) 3))) (add (land (shiftRight s11 0) 0) 1)) 1 0) 64)) (shiftLeft (ifB (ifB (ifB (beq (add (land (shiftRight s11 (shiftRight (land (shiftRight v2 512) 18446744073709551615) 16)) (sub (shiftLeft 1 (shiftLeft (land (land (shiftRight v2 512) 18446744073709551615) 65535) 3)) 1)) (shiftLeft 1 (shiftLeft (land (land (shiftRight v2 512) 18446744073709551615) 65535) 3))) (add (land (shiftRight s11 0) 0) 1)) false true) (ifB (ble 9223372036854776709 (xor (land (land (shiftRight v2 512) 18446744073709551615) 65535) 9223372036854775808)) false true) false) 1 0) 128)) 768)) (shiftLeft (xor (xor 6815745 (shiftLeft (ifB (beq (land (shiftRight (land (shiftRight v2 576) 18446744073709551615) 28) 131071) 0) 1 0) 64)) (shiftLeft (ifB (ifB (ifB (ble (succ (xor r22 9223372036854775808)) (xor (land (shiftRight (land (shiftRight v2 576) 18446744073709551615) 28) 131071) 9223372036854775808)) false true) (ifB (beq r24 1) false true) false) 1 0) 128)) 960)) t25) 2305843009213693951))) fun m29 =>
force (add v27 4611897126270533632) fun v30 =>
join (fun (m31 t31 s31 d31 : Nat) =>
force (ifB true 1 0) fun v33 =>
k v33 m31 t31 s31 d31) fun J32 =>
force (land (shiftRight v30 28) 131071) fun v34 =>
loopN 10 (fun (_ _ _ _ _ : Nat) => false) (fun L37 (p35 m36 t36 s36 d36 : Nat) =>
ifB (ble (succ (xor p35 9223372036854775808)) (xor v34 9223372036854775808)) (
okB (ble (succ p35) (land (shiftRight v30 28) 131071)) <|
okB (beq (land (shiftRight d36 (shiftRight (add (land v30 268435455) (mul p35 192)) 6)) 7) 0) <|
force (land (shiftRight m36 (add (land v30 268435455) (mul p35 192))) 6277101735386680763835789423207666416102355444464034512895) fun v38 =>
force (land (shiftRight v38 0) 18446744073709551615) fun v39 =>
sf276 r4 v39 m36 t36 s36 d36 fun r40 m41 t41 s41 d41 =>
okB (ifB (beq r40 1) (beq r40 1) true) <|
okB (ifB (ifB (ifB (beq r40 1) (ifB (beq (land (shiftRight v38 128) 18446744073709551615) 1) false true) false) false true) (ifB (ifB (beq r40 1) false true) (ifB (ifB (ifB (beq r40 1) (ifB (beq (land (shiftRight v38 128) 18446744073709551615) 1) false true) false) false true) (ifB (beq r40 1) false true) false) true) true) <|
okB (ifB (ifB (beq r40 1) (ifB (beq (land (shiftRight v38 128) 18446744073709551615) 1) false true) false) true (ifB (ifB (beq r40 1) (ifB (beq (land (shiftRight v38 128) 18446744073709551615) 1) false true) false) false true)) <|
ifB (ifB (ifB (beq r40 1) (ifB (beq (land (shiftRight v38 128) 18446744073709551615) 1) false true) false) true (ifB (ifB (beq r40 1) false true) (ifB (beq (land (shiftRight v38 64) 18446744073709551615) 1) false true) false)) (
false) <|
force (mod (add p35 1) 18446744073709551616) fun v42 =>
L37 v42 m41 t41 s41 d41) <|
J32 m36 t36 s36 d36) 0 m29 t28 s25 d25) fun J26 =>
ifB (ifB (ble (succ (xor r22 9223372036854775808)) (xor (land (shiftRight (land (shiftRight v2 576) 18446744073709551615) 28) 131071) 9223372036854775808)) false true) (
force (land (shiftRight v2 576) 18446744073709551615) fun v43 =>
sf275 v43 274 m23 t23 s23 d23 fun r44 m45 t45 s45 d45 =>
J26 r44 m45 t45 s45 d45) <|
J26 0 m23 t23 s23 d23) fun J12 =>
ifB (ifB (ifB (ifB (beq r5 1) false true) true (ifB (beq r7 1) false true)) false true) (
sf272 0 m8 t8 s8 d8 fun r46 m47 t47 s47 d47 =>
J12 r46 m47 t47 s47 d47) <|
J12 0 m8 t8 s8 d8) fun J9 =>
ifB (ifB (ifB (beq r5 1) false true) false true) (
force (land (shiftRight v2 64) 18446744073709551615) fun v48 =>
sf271 v48 m6 t6 s6 d6 fun r49 m50 t50 s50 d50 =>
J9 r49 m50 t50 s50 d50) <|
J9 0 m6 t6 s6 d6
noncomputable def e214 : FunE := ⟨[.agg (lay 227)], [.one .bool], wrapF 1 1 sf214⟩
noncomputable def i214 : FI := ⟨116, [1, 8], [1, 2, 3, 4, 5, 6, 8, 9, 10, 18, 24, 29, 63, 81, 90, 91, 92, 93, 101, 106, 109, 114], [(40, e40), (57, e57), (200, e200), (271, e271), (272, e272), (274, e274), (275, e275), (276, e276)], []⟩
def a214 : An := (.sq .reg (.sq .reg (.sq (.sq .reg (.cd .dead .skip)) (.sq .reg (.sq (.drw [(0, 0), (1, 0), (2, 0), (3, 0), (4, 0), (7, 0), (8, 0), (9, 0), (10, 0), (11, 0), (12, 0), (16, 0), (17, 0), (18, 0), (19, 0), (20, 0), (23, 0), (24, 0), (25, 0), (26, 0), (27, 0), (28, 0), (29, 0), (30, 0), (31, 0), (32, 0), (40, 0), (41, 0), (42, 0), (43, 0), (44, 0), (45, 0), (46, 0), (47, 0), (48, 0), (5, 1), (6, 0), (13, 1), (14, 0), (15, 0), (21, 1), (22, 0), (33, 0), (34, 0), (35, 0), (36, 0), (37, 0), (38, 0), (39, 0), (49, 1), (50, 0), (51, 0), (52, 0), (53, 0), (54, 0), (55, 1), (56, 0), (57, 0), (58, 0), (59, 1), (60, 0)]) (.sj [] (.sq .reg (.bl (.lp [(92, .sh (.one (.int .i64)))] 10 (.sq .reg (.sq (.cd .skip .ex) (.sq (.bl (.sq .reg (.sq .reg (.sq .reg (.cd .dead .skip))))) .reg)))))) (.sq .reg .ret)))))))
theorem q214 : AllN 1 fun l => ∀ m t s d k, R.denF i214 a214 (bodyOf Tryz.f214) Tryz.f214.results.toList e214.ps e214.rs l ⟨m, t, s, d⟩ k = wrapF 1 1 sf214 l ⟨m, t, s, d⟩ k := by
  intro x0 m t s d k
  kernel_rfl
theorem ok214 : FunOK Tryz.prog 214 e214 := fun_ok facts mixed (I := i214) (FnsOK.cons ok40 (FnsOK.cons ok57 (FnsOK.cons ok200 (FnsOK.cons ok271 (FnsOK.cons ok272 (FnsOK.cons ok274 (FnsOK.cons ok275 (FnsOK.cons ok276 FnsOK.nil)))))))) Tryz.func214 (by kernel_rfl) (by kernel_rfl) (by kernel_rfl) (an := a214) (by kernel_rfl) (by kernel_rfl) q214
noncomputable def sf215 : FT 2 1 := fun a1 a2 m t s d k =>
okB (ifB (ble (succ (xor a2 9223372036854775808)) 9223372036854775809) true (ifB (ble (succ (xor a2 9223372036854775808)) 9223372036854775809) false true)) <|
ifB (ifB (ble (succ (xor a2 9223372036854775808)) 9223372036854775809) true (ble 9223372036854775817 (xor a2 9223372036854775808))) (
false) <|
force (shiftLeft t 6) fun v3 =>
force (add t 8) fun t4 =>
okB (ble (succ t4) 4194304) <|
join (fun (m5 t5 s5 d5 : Nat) =>
okB (ifB (ble 0 a2) (ifB (ble a2 8) (ble (succ v3) 134217728) false) false) <|
force (lg s5) fun v7 =>
force (land (shiftRight (add (add v3 0) (shiftLeft (add (sub a2 0) 17180917760) 28)) 28) 131071) fun v8 =>
okB (ifB (ble (succ v8) 65536) (ifB (ble (succ v7) 8796093022208) (beq (land (shiftRight d5 (shiftRight (land (add (add v3 0) (shiftLeft (add (sub a2 0) 17180917760) 28)) 268435455) 6)) (sub (shiftLeft 1 (mul (land (shiftRight (add (add v3 0) (shiftLeft (add (sub a2 0) 17180917760) 28)) 28) 131071) 1)) 1)) 0) false) false) <|
force (packB m5 (land (add (add v3 0) (shiftLeft (add (sub a2 0) 17180917760) 28)) 268435455) v8) fun v9 =>
force (add s5 (add (shiftLeft v9 (lg s5)) (shiftLeft v8 3))) fun s10 =>
force (add (shiftLeft v7 16) v8) fun v11 =>
k v11 m5 t5 s10 d5) fun J6 =>
loopN 8 (fun (_ _ _ _ _ : Nat) => false) (fun L14 (p12 m13 t13 s13 d13 : Nat) =>
ifB (ble (succ (xor p12 9223372036854775808)) (xor a2 9223372036854775808)) (
okB (ble (succ (mod (mul 8 (mod (sub (add (mod (sub (add a2 18446744073709551616) 1) 18446744073709551616) 18446744073709551616) p12) 18446744073709551616)) 18446744073709551616)) 64) <|
okB (ble (succ p12) 8) <|
force (xor (land (shiftRight m13 (add v3 (mul p12 64))) 18446744073709551615) (mod (shiftRight a1 (mod (mul 8 (mod (sub (add (mod (sub (add a2 18446744073709551616) 1) 18446744073709551616) 18446744073709551616) p12) 18446744073709551616)) 18446744073709551616)) 256)) fun v15 =>
force (xor m13 (xor (shiftLeft v15 (add v3 (mul p12 64))) (mod (add v15 (add v3 (mul p12 64))) 2305843009213693951))) fun m16 =>
force (mod (add p12 1) 18446744073709551616) fun v17 =>
L14 v17 m16 t13 s13 d13) <|
J6 m13 t13 s13 d13) 0 m t4 s d
noncomputable def e215 : FunE := ⟨[.one (.int .u64), .one (.int .i64)], [.one .str], wrapF 2 1 sf215⟩
noncomputable def i215 : FI := ⟨31, [], [4, 5, 6, 9, 12, 13, 14, 15], [], []⟩
def a215 : An := (.sq .reg (.sq (.sq .reg (.cd .dead .skip)) (.sq .reg (.sj [] (.sq .reg (.bl (.lp [(14, .sh (.one (.int .i64)))] 8 (.sq .reg (.sq (.cd .skip .ex) (.sq (.bl (.sq .reg .reg)) .reg)))))) (.sq .reg .ret)))))
theorem q215 : AllN 2 fun l => ∀ m t s d k, R.denF i215 a215 (bodyOf Tryz.f215) Tryz.f215.results.toList e215.ps e215.rs l ⟨m, t, s, d⟩ k = wrapF 2 1 sf215 l ⟨m, t, s, d⟩ k := by
  intro x0 x1 m t s d k
  kernel_rfl
theorem ok215 : FunOK Tryz.prog 215 e215 := fun_ok facts mixed (I := i215) FnsOK.nil Tryz.func215 (by kernel_rfl) (by kernel_rfl) (by kernel_rfl) (an := a215) (by kernel_rfl) (by kernel_rfl) q215
noncomputable def sf216 : FT 1 1 := fun a1 m t s d k =>
force a1 fun v2 =>
force (land (shiftRight v2 0) 18446744073709551615) fun v3 =>
sf215 v3 4 m t s d fun r4 m5 t5 s5 d5 =>
okB (beq (land (shiftRight v2 64) 18446744073709551615) (land (shiftRight v2 64) 18446744073709551615)) <|
force (land (shiftRight v2 64) 18446744073709551615) fun v6 =>
sf215 v6 2 m5 t5 s5 d5 fun r7 m8 t8 s8 d8 =>
force (lg s8) fun v9 =>
force (add (land r4 65535) (land r7 65535)) fun v10 =>
okB (ifB (ble (succ v10) 65536) (ble (succ v9) 8796093022208) false) <|
force (add s8 (add (shiftLeft (add (land (shiftRight s8 (shiftRight r4 16)) (sub (shiftLeft 1 (shiftLeft (land r4 65535) 3)) 1)) (shiftLeft (land (shiftRight s8 (shiftRight r7 16)) (sub (shiftLeft 1 (shiftLeft (land r7 65535) 3)) 1)) (shiftLeft (land r4 65535) 3))) (lg s8)) (shiftLeft (add (land r4 65535) (land r7 65535)) 3))) fun s11 =>
force (add (shiftLeft v9 16) v10) fun v12 =>
k v12 m8 t8 s11 d8
noncomputable def e216 : FunE := ⟨[.agg (lay 44)], [.one .str], wrapF 1 1 sf216⟩
noncomputable def i216 : FI := ⟨12, [1], [1, 2], [(215, e215)], []⟩
def a216 : An := (.sq .reg (.sq (.drw [(0, 0), (1, 0), (2, 0), (4, 0), (5, 0), (6, 0), (3, 1), (7, 1), (8, 0), (9, 0)]) .ret))
theorem q216 : AllN 1 fun l => ∀ m t s d k, R.denF i216 a216 (bodyOf Tryz.f216) Tryz.f216.results.toList e216.ps e216.rs l ⟨m, t, s, d⟩ k = wrapF 1 1 sf216 l ⟨m, t, s, d⟩ k := by
  intro x0 m t s d k
  kernel_rfl
theorem ok216 : FunOK Tryz.prog 216 e216 := fun_ok facts mixed (I := i216) (FnsOK.cons ok215 FnsOK.nil) Tryz.func216 (by kernel_rfl) (by kernel_rfl) (by kernel_rfl) (an := a216) (by kernel_rfl) (by kernel_rfl) q216
noncomputable def sf217 : FT 1 2 := fun a1 m t s d k =>
sf40 0 m t s d fun r2 m3 t3 s3 d3 =>
ifB (ifB (beq r2 1) false true) (
false) <|
sf215 1000000 4 m3 t3 s3 d3 fun r4 m5 t5 s5 d5 =>
sf215 1000000 4 m5 t5 s5 d5 fun r6 m7 t7 s7 d7 =>
force (lg s7) fun v8 =>
force (add (land r4 65535) (land r6 65535)) fun v9 =>
okB (ifB (ble (succ v9) 65536) (ble (succ v8) 8796093022208) false) <|
force (add s7 (add (shiftLeft (add (land (shiftRight s7 (shiftRight r4 16)) (sub (shiftLeft 1 (shiftLeft (land r4 65535) 3)) 1)) (shiftLeft (land (shiftRight s7 (shiftRight r6 16)) (sub (shiftLeft 1 (shiftLeft (land r6 65535) 3)) 1)) (shiftLeft (land r4 65535) 3))) (lg s7)) (shiftLeft (add (land r4 65535) (land r6 65535)) 3))) fun s10 =>
force (add (shiftLeft v8 16) v9) fun v11 =>
force (ifB true 1 0) fun v12 =>
k v11 v12 m7 t7 s10 d7
noncomputable def e217 : FunE := ⟨[.one (.cst 0)], [.one .str, .one .bool], wrapF 1 2 sf217⟩
noncomputable def i217 : FI := ⟨19, [], [2, 3, 4, 7], [(40, e40), (215, e215)], []⟩
def a217 : An := (.sq .reg (.sq (.sq .reg (.cd .dead .skip)) (.sq .reg (.sq .reg .ret))))
theorem q217 : AllN 1 fun l => ∀ m t s d k, R.denF i217 a217 (bodyOf Tryz.f217) Tryz.f217.results.toList e217.ps e217.rs l ⟨m, t, s, d⟩ k = wrapF 1 2 sf217 l ⟨m, t, s, d⟩ k := by
  intro x0 m t s d k
  kernel_rfl
theorem ok217 : FunOK Tryz.prog 217 e217 := fun_ok facts mixed (I := i217) (FnsOK.cons ok40 (FnsOK.cons ok215 FnsOK.nil)) Tryz.func217 (by kernel_rfl) (by kernel_rfl) (by kernel_rfl) (an := a217) (by kernel_rfl) (by kernel_rfl) q217
noncomputable def sf218 : FT 1 2 := fun a1 m t s d k =>
force a1 fun v2 =>
force v2 fun v3 =>
sf80 v3 m t s d fun r4 m5 t5 s5 d5 =>
ifB (ifB (beq r4 1) false true) (
false) <|
force (land (shiftRight v2 0) 18446744073709551615) fun v6 =>
sf215 v6 1 m5 t5 s5 d5 fun r7 m8 t8 s8 d8 =>
okB (beq (land (shiftRight v2 192) 340282366920938463463374607431768211455) (land (shiftRight v2 192) 340282366920938463463374607431768211455)) <|
okB (beq (land (shiftRight v2 128) 18446744073709551615) (land (shiftRight v2 128) 18446744073709551615)) <|
okB (beq (land (shiftRight v2 64) 18446744073709551615) (land (shiftRight v2 64) 18446744073709551615)) <|
force (land (shiftRight v2 64) 18446744073709551615) fun v9 =>
sf215 v9 1 m8 t8 s8 d8 fun r10 m11 t11 s11 d11 =>
okB (beq (land (shiftRight v2 192) 340282366920938463463374607431768211455) (land (shiftRight v2 192) 340282366920938463463374607431768211455)) <|
okB (beq (land (shiftRight v2 128) 18446744073709551615) (land (shiftRight v2 128) 18446744073709551615)) <|
force (lg s11) fun v12 =>
force (add (land r7 65535) (land r10 65535)) fun v13 =>
okB (ifB (ble (succ v13) 65536) (ble (succ v12) 8796093022208) false) <|
force (add s11 (add (shiftLeft (add (land (shiftRight s11 (shiftRight r7 16)) (sub (shiftLeft 1 (shiftLeft (land r7 65535) 3)) 1)) (shiftLeft (land (shiftRight s11 (shiftRight r10 16)) (sub (shiftLeft 1 (shiftLeft (land r10 65535) 3)) 1)) (shiftLeft (land r7 65535) 3))) (lg s11)) (shiftLeft (add (land r7 65535) (land r10 65535)) 3))) fun s14 =>
force (land (shiftRight v2 128) 18446744073709551615) fun v15 =>
sf215 v15 4 m11 t11 s14 d11 fun r16 m17 t17 s17 d17 =>
okB (beq (land (shiftRight v2 192) 340282366920938463463374607431768211455) (land (shiftRight v2 192) 340282366920938463463374607431768211455)) <|
force (lg s17) fun v18 =>
force (add (land (add (shiftLeft v12 16) v13) 65535) (land r16 65535)) fun v19 =>
okB (ifB (ble (succ v19) 65536) (ble (succ v18) 8796093022208) false) <|
force (add s17 (add (shiftLeft (add (land (shiftRight s17 (shiftRight (add (shiftLeft v12 16) v13) 16)) (sub (shiftLeft 1 (shiftLeft (land (add (shiftLeft v12 16) v13) 65535) 3)) 1)) (shiftLeft (land (shiftRight s17 (shiftRight r16 16)) (sub (shiftLeft 1 (shiftLeft (land r16 65535) 3)) 1)) (shiftLeft (land (add (shiftLeft v12 16) v13) 65535) 3))) (lg s17)) (shiftLeft (add (land (add (shiftLeft v12 16) v13) 65535) (land r16 65535)) 3))) fun s20 =>
force (land (shiftRight v2 192) 340282366920938463463374607431768211455) fun v21 =>
sf216 v21 m17 t17 s20 d17 fun r22 m23 t23 s23 d23 =>
force (lg s23) fun v24 =>
force (add (land (add (shiftLeft v18 16) v19) 65535) (land r22 65535)) fun v25 =>
okB (ifB (ble (succ v25) 65536) (ble (succ v24) 8796093022208) false) <|
force (add s23 (add (shiftLeft (add (land (shiftRight s23 (shiftRight (add (shiftLeft v18 16) v19) 16)) (sub (shiftLeft 1 (shiftLeft (land (add (shiftLeft v18 16) v19) 65535) 3)) 1)) (shiftLeft (land (shiftRight s23 (shiftRight r22 16)) (sub (shiftLeft 1 (shiftLeft (land r22 65535) 3)) 1)) (shiftLeft (land (add (shiftLeft v18 16) v19) 65535) 3))) (lg s23)) (shiftLeft (add (land (add (shiftLeft v18 16) v19) 65535) (land r22 65535)) 3))) fun s26 =>
force (add (shiftLeft v24 16) v25) fun v27 =>
force (ifB true 1 0) fun v28 =>
k v27 v28 m23 t23 s26 d23
noncomputable def e218 : FunE := ⟨[.agg (lay 53)], [.one .str, .one .bool], wrapF 1 2 sf218⟩
noncomputable def i218 : FI := ⟨25, [1], [1, 2, 3, 6], [(80, e80), (215, e215), (216, e216)], []⟩
def a218 : An := (.sq .reg (.sq (.sq .reg (.cd .dead .skip)) (.sq (.drw [(0, 0), (1, 0), (2, 0), (4, 0), (5, 0), (6, 0), (9, 0), (10, 0), (11, 0), (14, 0), (15, 0), (3, 1), (7, 1), (8, 0), (12, 1), (13, 0), (16, 1), (17, 0), (18, 0), (19, 0)]) .ret)))
theorem q218 : AllN 1 fun l => ∀ m t s d k, R.denF i218 a218 (bodyOf Tryz.f218) Tryz.f218.results.toList e218.ps e218.rs l ⟨m, t, s, d⟩ k = wrapF 1 2 sf218 l ⟨m, t, s, d⟩ k := by
  intro x0 m t s d k
  kernel_rfl
theorem ok218 : FunOK Tryz.prog 218 e218 := fun_ok facts mixed (I := i218) (FnsOK.cons ok80 (FnsOK.cons ok215 (FnsOK.cons ok216 FnsOK.nil))) Tryz.func218 (by kernel_rfl) (by kernel_rfl) (by kernel_rfl) (an := a218) (by kernel_rfl) (by kernel_rfl) q218
noncomputable def sf145r : FT 1 2 := fun a1 m t s d k =>
force a1 fun v2 =>
force v2 fun v3 =>
sf214 v3 m t s d fun r4 m5 t5 s5 d5 =>
ifB (ifB (beq r4 1) false true) (
false) <|
force (land (shiftRight v2 0) 18446744073709551615) fun v6 =>
sf200 v6 m5 t5 s5 d5 fun r7 r8 m9 t9 s9 d9 =>
force (land (shiftRight v2 0) 18446744073709551615) fun v10 =>
sf215 v10 1 m9 t9 s9 d9 fun r11 m12 t12 s12 d12 =>
okB (beq (land (shiftRight v2 128) 18446744073709551615) (land (shiftRight v2 128) 18446744073709551615)) <|
okB (beq (land (shiftRight v2 64) 18446744073709551615) (land (shiftRight v2 64) 18446744073709551615)) <|
force (land (shiftRight v2 64) 18446744073709551615) fun v13 =>
sf215 v13 1 m12 t12 s12 d12 fun r14 m15 t15 s15 d15 =>
okB (beq (land (shiftRight v2 128) 18446744073709551615) (land (shiftRight v2 128) 18446744073709551615)) <|
force (lg s15) fun v16 =>
force (add (land r11 65535) (land r14 65535)) fun v17 =>
okB (ifB (ble (succ v17) 65536) (ble (succ v16) 8796093022208) false) <|
force (add s15 (add (shiftLeft (add (land (shiftRight s15 (shiftRight r11 16)) (sub (shiftLeft 1 (shiftLeft (land r11 65535) 3)) 1)) (shiftLeft (land (shiftRight s15 (shiftRight r14 16)) (sub (shiftLeft 1 (shiftLeft (land r14 65535) 3)) 1)) (shiftLeft (land r11 65535) 3))) (lg s15)) (shiftLeft (add (land r11 65535) (land r14 65535)) 3))) fun s18 =>
force (land (shiftRight v2 128) 18446744073709551615) fun v19 =>
sf215 v19 4 m15 t15 s18 d15 fun r20 m21 t21 s21 d21 =>
force (lg s21) fun v22 =>
force (add (land (add (shiftLeft v16 16) v17) 65535) (land r20 65535)) fun v23 =>
okB (ifB (ble (succ v23) 65536) (ble (succ v22) 8796093022208) false) <|
force (add s21 (add (shiftLeft (add (land (shiftRight s21 (shiftRight (add (shiftLeft v16 16) v17) 16)) (sub (shiftLeft 1 (shiftLeft (land (add (shiftLeft v16 16) v17) 65535) 3)) 1)) (shiftLeft (land (shiftRight s21 (shiftRight r20 16)) (sub (shiftLeft 1 (shiftLeft (land r20 65535) 3)) 1)) (shiftLeft (land (add (shiftLeft v16 16) v17) 65535) 3))) (lg s21)) (shiftLeft (add (land (add (shiftLeft v16 16) v17) 65535) (land r20 65535)) 3))) fun s24 =>
force (add (shiftLeft v22 16) v23) fun v25 =>
join (fun (p26 m27 t27 s27 d27 : Nat) =>
ifB (ble 9223372036854776833 (xor (land p26 65535) 9223372036854775808)) (
false) <|
force (ifB true 1 0) fun v29 =>
k p26 v29 m27 t27 s27 d27) fun J28 =>
force (add (shiftLeft r7 16) 0) fun v111 =>
loopN 6 (fun (_ _ _ _ _ _ _ : Nat) => false) (fun L34 (p30 p31 p32 m33 t33 s33 d33 : Nat) =>
ifB (ble (succ (land p32 65535)) (land (shiftRight p32 16) 65535)) (
force (land (shiftRight s33 (add (shiftRight (shiftRight p32 16) 16) (shiftLeft (land p32 65535) 3))) 255) fun v35 =>
okB (ble (succ v35) 128) <|
force (succ (land p32 65535)) fun v36 =>
ifB true (
ifB (beq v35 110) (
force (land (shiftRight p30 192) 18446744073709551615) fun v37 =>
sf215 v37 1 m33 t33 s33 d33 fun r38 m39 t39 s39 d39 =>
force (lg s39) fun v40 =>
force (add (land p31 65535) (land r38 65535)) fun v41 =>
okB (ifB (ble (succ v41) 65536) (ble (succ v40) 8796093022208) false) <|
force (add s39 (add (shiftLeft (add (land (shiftRight s39 (shiftRight p31 16)) (sub (shiftLeft 1 (shiftLeft (land p31 65535) 3)) 1)) (shiftLeft (land (shiftRight s39 (shiftRight r38 16)) (sub (shiftLeft 1 (shiftLeft (land r38 65535) 3)) 1)) (shiftLeft (land p31 65535) 3))) (lg s39)) (shiftLeft (add (land p31 65535) (land r38 65535)) 3))) fun s42 =>
force (add (shiftLeft v40 16) v41) fun v43 =>
force (add (shiftLeft (shiftRight p32 16) 16) v36) fun v44 =>
L34 p30 v43 v44 m39 t39 s42 d39) <|
ifB (beq v35 97) (
force (land (shiftRight p30 256) 340282366920938463463374607431768211455) fun v45 =>
sf216 v45 m33 t33 s33 d33 fun r46 m47 t47 s47 d47 =>
force (lg s47) fun v48 =>
force (add (land p31 65535) (land r46 65535)) fun v49 =>
okB (ifB (ble (succ v49) 65536) (ble (succ v48) 8796093022208) false) <|
force (add s47 (add (shiftLeft (add (land (shiftRight s47 (shiftRight p31 16)) (sub (shiftLeft 1 (shiftLeft (land p31 65535) 3)) 1)) (shiftLeft (land (shiftRight s47 (shiftRight r46 16)) (sub (shiftLeft 1 (shiftLeft (land r46 65535) 3)) 1)) (shiftLeft (land p31 65535) 3))) (lg s47)) (shiftLeft (add (land p31 65535) (land r46 65535)) 3))) fun s50 =>
force (add (shiftLeft v48 16) v49) fun v51 =>
force (add (shiftLeft (shiftRight p32 16) 16) v36) fun v52 =>
L34 p30 v51 v52 m47 t47 s50 d47) <|
ifB (beq v35 112) (
sf217 0 m33 t33 s33 d33 fun r53 r54 m55 t55 s55 d55 =>
force (lg s55) fun v56 =>
force (add (land p31 65535) (land r53 65535)) fun v57 =>
okB (ifB (ble (succ v57) 65536) (ble (succ v56) 8796093022208) false) <|
force (add s55 (add (shiftLeft (add (land (shiftRight s55 (shiftRight p31 16)) (sub (shiftLeft 1 (shiftLeft (land p31 65535) 3)) 1)) (shiftLeft (land (shiftRight s55 (shiftRight r53 16)) (sub (shiftLeft 1 (shiftLeft (land r53 65535) 3)) 1)) (shiftLeft (land p31 65535) 3))) (lg s55)) (shiftLeft (add (land p31 65535) (land r53 65535)) 3))) fun s58 =>
force (add (shiftLeft v56 16) v57) fun v59 =>
force (add (shiftLeft (shiftRight p32 16) 16) v36) fun v60 =>
L34 p30 v59 v60 m55 t55 s58 d55) <|
ifB (beq v35 102) (
join (fun (p61 m62 t62 s62 d62 : Nat) =>
sf215 p61 1 m62 t62 s62 d62 fun r64 m65 t65 s65 d65 =>
force (lg s65) fun v66 =>
force (add (land p31 65535) (land r64 65535)) fun v67 =>
okB (ifB (ble (succ v67) 65536) (ble (succ v66) 8796093022208) false) <|
force (add s65 (add (shiftLeft (add (land (shiftRight s65 (shiftRight p31 16)) (sub (shiftLeft 1 (shiftLeft (land p31 65535) 3)) 1)) (shiftLeft (land (shiftRight s65 (shiftRight r64 16)) (sub (shiftLeft 1 (shiftLeft (land r64 65535) 3)) 1)) (shiftLeft (land p31 65535) 3))) (lg s65)) (shiftLeft (add (land p31 65535) (land r64 65535)) 3))) fun s68 =>
force (add (shiftLeft v66 16) v67) fun v69 =>
force (add (shiftLeft (shiftRight p32 16) 16) v36) fun v70 =>
L34 p30 v69 v70 m65 t65 s68 d65) fun J63 =>
force (land (shiftRight p30 448) 18446744073709551615) fun v71 =>
ifB (beq v71 1) (
J63 1 m33 t33 s33 d33) <|
J63 0 m33 t33 s33 d33) <|
ifB (beq v35 98) (
force (land (land (shiftRight p30 512) 18446744073709551615) 65535) fun v72 =>
sf215 v72 2 m33 t33 s33 d33 fun r73 m74 t74 s74 d74 =>
okB (beq (land (shiftRight p30 512) 18446744073709551615) (land (shiftRight p30 512) 18446744073709551615)) <|
force (lg s74) fun v75 =>
force (add (land r73 65535) (land (land (shiftRight p30 512) 18446744073709551615) 65535)) fun v76 =>
okB (ifB (ble (succ v76) 65536) (ble (succ v75) 8796093022208) false) <|
force (add s74 (add (shiftLeft (add (land (shiftRight s74 (shiftRight r73 16)) (sub (shiftLeft 1 (shiftLeft (land r73 65535) 3)) 1)) (shiftLeft (land (shiftRight s74 (shiftRight (land (shiftRight p30 512) 18446744073709551615) 16)) (sub (shiftLeft 1 (shiftLeft (land (land (shiftRight p30 512) 18446744073709551615) 65535) 3)) 1)) (shiftLeft (land r73 65535) 3))) (lg s74)) (shiftLeft (add (land r73 65535) (land (land (shiftRight p30 512) 18446744073709551615) 65535)) 3))) fun s77 =>
force (lg s77) fun v78 =>
force (add (land p31 65535) (land (add (shiftLeft v75 16) v76) 65535)) fun v79 =>
okB (ifB (ble (succ v79) 65536) (ble (succ v78) 8796093022208) false) <|
force (add s77 (add (shiftLeft (add (land (shiftRight s77 (shiftRight p31 16)) (sub (shiftLeft 1 (shiftLeft (land p31 65535) 3)) 1)) (shiftLeft (land (shiftRight s77 (shiftRight (add (shiftLeft v75 16) v76) 16)) (sub (shiftLeft 1 (shiftLeft (land (add (shiftLeft v75 16) v76) 65535) 3)) 1)) (shiftLeft (land p31 65535) 3))) (lg s77)) (shiftLeft (add (land p31 65535) (land (add (shiftLeft v75 16) v76) 65535)) 3))) fun s80 =>
force (add (shiftLeft v78 16) v79) fun v81 =>
force (add (shiftLeft (shiftRight p32 16) 16) v36) fun v82 =>
L34 p30 v81 v82 m74 t74 s80 d74) <|
ifB (beq v35 114) (
force (land (shiftRight (land (shiftRight p30 576) 18446744073709551615) 28) 131071) fun v83 =>
sf215 v83 1 m33 t33 s33 d33 fun r84 m85 t85 s85 d85 =>
force (lg s85) fun v86 =>
force (add (land p31 65535) (land r84 65535)) fun v87 =>
okB (ifB (ble (succ v87) 65536) (ble (succ v86) 8796093022208) false) <|
force (add s85 (add (shiftLeft (add (land (shiftRight s85 (shiftRight p31 16)) (sub (shiftLeft 1 (shiftLeft (land p31 65535) 3)) 1)) (shiftLeft (land (shiftRight s85 (shiftRight r84 16)) (sub (shiftLeft 1 (shiftLeft (land r84 65535) 3)) 1)) (shiftLeft (land p31 65535) 3))) (lg s85)) (shiftLeft (add (land p31 65535) (land r84 65535)) 3))) fun s88 =>
force (add (shiftLeft v86 16) v87) fun v89 =>
force (land (shiftRight p30 576) 18446744073709551615) fun v90 =>
force (land (shiftRight v90 28) 131071) fun v91 =>
force (add (shiftLeft (shiftRight p32 16) 16) v36) fun v110 =>
loopN 6 (fun (_ _ _ _ _ _ _ _ : Nat) => false) (fun L97 (p92 p93 p94 p95 m96 t96 s96 d96 : Nat) =>
ifB (ble (succ (xor p95 9223372036854775808)) (xor v91 9223372036854775808)) (
okB (ble (succ p95) (land (shiftRight v90 28) 131071)) <|
okB (beq (land (shiftRight d96 (shiftRight (add (land v90 268435455) (mul p95 320)) 6)) 31) 0) <|
force (land (shiftRight m96 (add (land v90 268435455) (mul p95 320))) (mask 5)) fun v98 =>
force v98 fun v99 =>
sf218 v99 m96 t96 s96 d96 fun r100 r101 m102 t102 s102 d102 =>
force (lg s102) fun v103 =>
force (add (land p93 65535) (land r100 65535)) fun v104 =>
okB (ifB (ble (succ v104) 65536) (ble (succ v103) 8796093022208) false) <|
force (add s102 (add (shiftLeft (add (land (shiftRight s102 (shiftRight p93 16)) (sub (shiftLeft 1 (shiftLeft (land p93 65535) 3)) 1)) (shiftLeft (land (shiftRight s102 (shiftRight r100 16)) (sub (shiftLeft 1 (shiftLeft (land r100 65535) 3)) 1)) (shiftLeft (land p93 65535) 3))) (lg s102)) (shiftLeft (add (land p93 65535) (land r100 65535)) 3))) fun s105 =>
force (add (shiftLeft v103 16) v104) fun v106 =>
force (mod (add p95 1) 18446744073709551616) fun v107 =>
force (add (shiftLeft (shiftRight p94 16) 16) (land p94 65535)) fun v108 =>
L97 p92 v106 v108 v107 m102 t102 s105 d102) <|
force (add (shiftLeft (shiftRight p94 16) 16) (land p94 65535)) fun v109 =>
L34 p92 p93 v109 m96 t96 s96 d96) p30 v89 v110 0 m85 t85 s88 d85) <|
false) <|
J28 p31 m33 t33 s33 d33) <|
ifB false (
false) <|
J28 p31 m33 t33 s33 d33) v2 v25 v111 m21 t21 s24 d21
noncomputable def e145r : FunE := ⟨[.agg (lay 227)], [.one .str, .one .bool], wrapF 1 2 sf145r⟩
noncomputable def i145r : FI := ⟨120, [1, 13], [1, 2, 3, 4, 6, 8, 9, 11, 13, 14, 18, 19, 40, 41, 42, 44, 45, 53, 60, 62, 71, 74, 79, 91, 101, 102, 103, 104, 107, 118], [(200, e200), (214, e214), (215, e215), (216, e216), (217, e217), (218, e218)], []⟩
def a145r : An := (.sq .reg (.sq (.sq .reg (.cd .dead .skip)) (.sq .reg (.sq (.drw [(0, 0), (1, 0), (2, 0), (4, 0), (5, 0), (6, 0), (9, 0), (10, 0), (11, 0), (3, 1), (7, 1), (8, 0), (12, 1), (13, 0), (14, 0)]) (.sj [(6, .sh (.one .str))] (.sq .reg (.bl (.lp [(1, .loc (lay 227)), (6, .sh (.one .str)), (40, .itr)] 6 (.sq .reg (.sq (.cd .skip .ex) (.bl (.sq .reg (.sq .reg (.bl (.sq .reg (.cd .reg (.sq .reg (.cd .reg (.sq .reg (.cd (.sq .reg .reg) (.sq .reg (.cd (.sq .reg (.sj [(11, .sh (.one (.int .u64)))] (.sq .reg (.cd .reg .skip)) .reg)) (.sq .reg (.cd (.drw [(0, 0), (1, 0), (2, 0), (3, 0), (4, 0), (6, 0), (7, 0), (5, 1), (8, 0), (9, 0), (10, 1)]) (.sq .reg (.cd (.sq .reg (.sq .reg (.bl (.lp [(1, .loc (lay 227)), (6, .sh (.one .str)), (40, .itr), (103, .sh (.one (.int .i64)))] 6 (.sq .reg (.sq (.cd .skip .ex) (.sq (.bl (.sq .reg (.sq .reg .reg))) .reg))))))) .dead))))))))))))))))))))) (.sq (.sq .reg (.cd .dead .skip)) (.sq .reg .ret)))))))
theorem q145r : AllN 1 fun l => ∀ m t s d k, R.denF i145r a145r (bodyOf Tryz.f145) Tryz.f145.results.toList e145r.ps e145r.rs l ⟨m, t, s, d⟩ k = wrapF 1 2 sf145r l ⟨m, t, s, d⟩ k := by
  intro x0 m t s d k
  kernel_rfl
theorem ok145r : FunOK Tryz.prog 145 e145r := fun_ok facts mixed (I := i145r) (FnsOK.cons ok200 (FnsOK.cons ok214 (FnsOK.cons ok215 (FnsOK.cons ok216 (FnsOK.cons ok217 (FnsOK.cons ok218 FnsOK.nil)))))) Tryz.func145 (by kernel_rfl) (by kernel_rfl) (by kernel_rfl) (an := a145r) (by kernel_rfl) (by kernel_rfl) q145r
noncomputable def sf145 : FT 1 2 := fun a0 m t s d k =>
sf145r a0 m t s d fun r0 r1 m1 t1 s1 d1 =>
ifB (beq (shiftRight m 64) (shiftRight (land (shiftRight m1 0) (mask t)) 64)) (k r0 r1 m t s1 (mod d1 (pow 2 t))) <|
k r0 r1 m1 t1 s1 d1
noncomputable def e145 : FunE := ⟨[.agg (lay 227)], [.one .str, .one .bool], wrapF 1 2 sf145⟩
theorem q145 : AllN 1 fun l => ∀ m t s d k, resetF e145r.rs e145r.f l ⟨m, t, s, d⟩ k = wrapF 1 2 sf145 l ⟨m, t, s, d⟩ k := by
  intro x0 m t s d k
  kernel_rfl
theorem ok145 : FunOK Tryz.prog 145 e145 := FunOK.wrap (FunOK.reset (ps := e145r.ps) (rs := e145r.rs) (F := e145r.f) ok145r) q145
noncomputable def sf105 : FT 3 0 := fun a1 a2 a3 m t s d k =>
force a2 fun v4 =>
force a3 fun v5 =>
okB (ifB (beq a1 0) false true) <|
force (xor v5 (shiftLeft (xor (land (shiftRight v5 64) 18446744073709551615) (land (shiftRight m a1) 18446744073709551615)) 64)) fun v6 =>
force v6 fun v7 =>
sf145 v7 m t s d fun r8 r9 m10 t10 s10 d10 =>
join (fun (r11 m12 t12 s12 d12 : Nat) =>
okB (ifB (beq r9 1) (beq r9 1) true) <|
ifB (ifB (beq r9 1) (ifB (beq r11 1) false true) false) (
okB (ifB (beq a1 0) false true) <|
force (xor v4 (shiftLeft r8 128)) fun v14 =>
okB (beq (land (shiftRight m12 (add a1 2240)) 18446744073709551615) (land (shiftRight m12 (add a1 2240)) 18446744073709551615)) <|
join (fun (r15 m16 t16 s16 d16 : Nat) =>
okB (ifB (beq a1 0) false true) <|
force (xor (land (shiftRight m16 (add a1 2240)) 18446744073709551615) r15) fun v18 =>
force (xor m16 (xor (shiftLeft v18 (add a1 2240)) (mod (add v18 (add a1 2240)) 2305843009213693951))) fun m19 =>
k m19 t16 s16 d16) fun J17 =>
appR 3 (land (shiftRight m12 (add a1 2240)) 18446744073709551615) 1 v14 m12 t12 s12 d12 J17) <|
false) fun J13 =>
ifB (beq r9 1) (
force v4 fun v20 =>
sf57 v20 m10 t10 s10 d10 fun r21 m22 t22 s22 d22 =>
J13 r21 m22 t22 s22 d22) <|
J13 0 m10 t10 s10 d10
noncomputable def e105 : FunE := ⟨[.ptr (lay 104) false false, .agg (lay 44), .agg (lay 227)], [], wrapF 3 0 sf105⟩
noncomputable def i105 : FI := ⟨37, [4, 5, 33], [4, 5, 6, 7, 14, 20, 24], [(57, e57), (145, e145)], []⟩
def a105 : An := (.sq .reg (.sq .reg (.sq .reg (.sq .reg (.cd (.drw [(0, 0), (1, 0), (2, 0), (3, 0), (4, 0), (5, 0), (6, 0), (7, 0), (8, 2), (9, 1), (10, 0), (11, 0), (12, 1)]) .dead)))))
theorem q105 : AllN 3 fun l => ∀ m t s d k, R.denF i105 a105 (bodyOf Tryz.f105) Tryz.f105.results.toList e105.ps e105.rs l ⟨m, t, s, d⟩ k = wrapF 3 0 sf105 l ⟨m, t, s, d⟩ k := by
  intro x0 x1 x2 m t s d k
  kernel_rfl
theorem ok105 : FunOK Tryz.prog 105 e105 := fun_ok facts mixed (I := i105) (FnsOK.cons ok57 (FnsOK.cons ok145 FnsOK.nil)) Tryz.func105 (by kernel_rfl) (by kernel_rfl) (by kernel_rfl) (an := a105) (by kernel_rfl) (by kernel_rfl) q105
noncomputable def sf183 : FT 3 2 := fun a1 a2 a3 m t s d k =>
sf179 a2 m t s d fun r4 m5 t5 s5 d5 =>
okB (ifB (ifB (ifB (beq r4 1) false true) false true) (ifB (beq a1 0) false true) true) <|
okB (ifB (ifB (ifB (beq r4 1) false true) false true) (ble (succ a2) 33) true) <|
okB (ifB (ifB (beq r4 1) false true) true (ifB (ifB (beq r4 1) false true) false true)) <|
okB (ifB (ifB (ifB (ifB (beq r4 1) false true) true (beq (land (shiftRight m5 (add (add a1 128) (mul a2 256))) 18446744073709551615) 0)) false true) (ifB (beq a1 0) false true) true) <|
okB (ifB (ifB (ifB (ifB (beq r4 1) false true) true (beq (land (shiftRight m5 (add (add a1 128) (mul a2 256))) 18446744073709551615) 0)) false true) (ble (succ a2) 33) true) <|
okB (ifB (ifB (ifB (beq r4 1) false true) true (beq (land (shiftRight m5 (add (add a1 128) (mul a2 256))) 18446744073709551615) 0)) true (ifB (ifB (ifB (beq r4 1) false true) true (beq (land (shiftRight m5 (add (add a1 128) (mul a2 256))) 18446744073709551615) 0)) false true)) <|
ifB (ifB (ifB (ifB (beq r4 1) false true) true (beq (land (shiftRight m5 (add (add a1 128) (mul a2 256))) 18446744073709551615) 0)) true (ifB (ble (succ a3) (land (shiftRight m5 (add (add (add a1 128) (mul a2 256)) 192)) 18446744073709551615)) false true)) (
force 0 fun v6 =>
force v6 fun v7 =>
force (ifB false 1 0) fun v8 =>
k v7 v8 m5 t5 s5 d5) <|
okB (ifB (beq a1 0) false true) <|
okB (ble (succ a2) 33) <|
force (land (shiftRight m5 (add (add (add a1 128) (mul a2 256)) 64)) 340282366920938463463374607431768211455) fun v9 =>
force v9 fun v10 =>
force (ifB true 1 0) fun v11 =>
k v10 v11 m5 t5 s5 d5
noncomputable def e183 : FunE := ⟨[.ptr (lay 188) false false, .one (.int .i64), .one (.int .u64)], [.agg (lay 44), .one .bool], wrapF 3 2 sf183⟩
noncomputable def i183 : FI := ⟨40, [6], [6, 7, 11, 21, 31], [(179, e179)], []⟩
def a183 : An := (.sq .reg (.sq (.sq .reg (.cd (.sq .reg .ret) .skip)) (.sq .reg .ret)))
theorem q183 : AllN 3 fun l => ∀ m t s d k, R.denF i183 a183 (bodyOf Tryz.f183) Tryz.f183.results.toList e183.ps e183.rs l ⟨m, t, s, d⟩ k = wrapF 3 2 sf183 l ⟨m, t, s, d⟩ k := by
  intro x0 x1 x2 m t s d k
  kernel_rfl
theorem ok183 : FunOK Tryz.prog 183 e183 := fun_ok facts mixed (I := i183) (FnsOK.cons ok179 FnsOK.nil) Tryz.func183 (by kernel_rfl) (by kernel_rfl) (by kernel_rfl) (an := a183) (by kernel_rfl) (by kernel_rfl) q183
noncomputable def sf130 : FT 3 1 := fun a1 a2 a3 m t s d k =>
force a3 fun v4 =>
okB (ifB (beq a1 0) false true) <|
force (xor v4 (shiftLeft (xor (land (shiftRight v4 64) 18446744073709551615) (land (shiftRight m a1) 18446744073709551615)) 64)) fun v5 =>
okB (ifB (beq a1 0) false true) <|
okB (ifB (beq a1 0) false true) <|
force (land (shiftRight m (add a1 1728)) 18446744073709551615) fun v6 =>
force (land (shiftRight m (add a1 2304)) 18446744073709551615) fun v7 =>
sf183 v6 a2 v7 m t s d fun r8 r9 m10 t10 s10 d10 =>
okB (beq (land (shiftRight m10 (add a1 2304)) 18446744073709551615) (land (shiftRight m (add a1 2304)) 18446744073709551615)) <|
okB (beq (land (shiftRight m10 (add a1 1728)) 18446744073709551615) (land (shiftRight m (add a1 1728)) 18446744073709551615)) <|
force r8 fun v11 =>
ifB (beq r9 1) (
force v11 fun v12 =>
force v5 fun v13 =>
sf105 a1 v12 v13 m10 t10 s10 d10 fun m14 t14 s14 d14 =>
force (ifB true 1 0) fun v15 =>
k v15 m14 t14 s14 d14) <|
okB (ifB (beq a1 0) false true) <|
force (land (shiftRight m10 (add a1 960)) 18446744073709551615) fun v16 =>
sf14 v16 a2 m10 t10 s10 d10 fun r17 r18 m19 t19 s19 d19 =>
force r17 fun v20 =>
okB (ifB (ifB (ifB (beq r18 1) false true) false true) (ifB (beq a1 0) false true) true) <|
okB (ifB (ifB (beq r18 1) false true) true (ifB (ifB (beq r18 1) false true) false true)) <|
ifB (ifB (ifB (beq r18 1) false true) true (beq a2 (land (shiftRight m19 a1) 18446744073709551615))) (
false) <|
force v5 fun v21 =>
sf145 v21 m19 t19 s19 d19 fun r22 r23 m24 t24 s24 d24 =>
ifB (beq r23 1) (
force (land (shiftRight v20 192) 340282366920938463463374607431768211455) fun v25 =>
force (xor (xor 5 (shiftLeft a2 192)) (shiftLeft r22 512)) fun v26 =>
sf105 a1 v25 v26 m24 t24 s24 d24 fun m27 t27 s27 d27 =>
force (ifB true 1 0) fun v28 =>
k v28 m27 t27 s27 d27) <|
false
noncomputable def e130 : FunE := ⟨[.ptr (lay 104) false false, .one (.int .i64), .agg (lay 227)], [.one .bool], wrapF 3 1 sf130⟩
noncomputable def i130 : FI := ⟨70, [5, 7, 9], [5, 6, 7, 8, 9, 10, 11, 12, 19, 32, 37, 48, 56, 57, 62], [(14, e14), (105, e105), (145, e145), (183, e183)], []⟩
def a130 : An := (.sq .reg (.sq .reg (.sq (.sq (.drw [(0, 0), (1, 0), (2, 0), (3, 0), (4, 0), (5, 0), (6, 0), (7, 0), (8, 0), (9, 1), (10, 0), (11, 0), (12, 0), (13, 2), (14, 1), (15, 0)]) (.sq .reg (.cd (.sq .reg (.sq .reg .ret)) .skip))) (.sq .reg (.sq (.sq .reg (.cd .dead .skip)) (.sq (.sq .reg (.sq .reg (.cd .reg .dead))) (.sq .reg .ret)))))))
theorem q130 : AllN 3 fun l => ∀ m t s d k, R.denF i130 a130 (bodyOf Tryz.f130) Tryz.f130.results.toList e130.ps e130.rs l ⟨m, t, s, d⟩ k = wrapF 3 1 sf130 l ⟨m, t, s, d⟩ k := by
  intro x0 x1 x2 m t s d k
  kernel_rfl
theorem ok130 : FunOK Tryz.prog 130 e130 := fun_ok facts mixed (I := i130) (FnsOK.cons ok14 (FnsOK.cons ok105 (FnsOK.cons ok145 (FnsOK.cons ok183 FnsOK.nil)))) Tryz.func130 (by kernel_rfl) (by kernel_rfl) (by kernel_rfl) (an := a130) (by kernel_rfl) (by kernel_rfl) q130
noncomputable def sf108 : FT 3 1 := fun a1 a2 a3 m t s d k =>
force a3 fun v4 =>
okB (ifB (beq a1 0) false true) <|
force (land (shiftRight m (add a1 1856)) 18446744073709551615) fun v5 =>
sf132 v5 a2 m t s d fun r6 r7 m8 t8 s8 d8 =>
force r6 fun v9 =>
okB (ifB (beq r7 1) (beq r7 1) true) <|
ifB (ifB (beq r7 1) (beq (land (shiftRight v9 64) 18446744073709551615) 3) false) (
force (land (shiftRight v9 192) 340282366920938463463374607431768211455) fun v10 =>
force v4 fun v11 =>
sf105 a1 v10 v11 m8 t8 s8 d8 fun m12 t12 s12 d12 =>
force (ifB true 1 0) fun v13 =>
k v13 m12 t12 s12 d12) <|
force v4 fun v14 =>
sf130 a1 a2 v14 m8 t8 s8 d8 fun r15 m16 t16 s16 d16 =>
k r15 m16 t16 s16 d16
noncomputable def e108 : FunE := ⟨[.ptr (lay 104) false false, .one (.int .i64), .agg (lay 227)], [.one .bool], wrapF 3 1 sf108⟩
noncomputable def i108 : FI := ⟨33, [5, 7], [5, 6, 7, 8, 9, 19, 23], [(105, e105), (130, e130), (132, e132)], []⟩
def a108 : An := (.sq .reg (.sq (.sq .reg (.sq .reg (.cd (.sq .reg (.sq .reg .ret)) .skip))) (.sq .reg .ret)))
theorem q108 : AllN 3 fun l => ∀ m t s d k, R.denF i108 a108 (bodyOf Tryz.f108) Tryz.f108.results.toList e108.ps e108.rs l ⟨m, t, s, d⟩ k = wrapF 3 1 sf108 l ⟨m, t, s, d⟩ k := by
  intro x0 x1 x2 m t s d k
  kernel_rfl
theorem ok108 : FunOK Tryz.prog 108 e108 := fun_ok facts mixed (I := i108) (FnsOK.cons ok105 (FnsOK.cons ok130 (FnsOK.cons ok132 FnsOK.nil))) Tryz.func108 (by kernel_rfl) (by kernel_rfl) (by kernel_rfl) (an := a108) (by kernel_rfl) (by kernel_rfl) q108
noncomputable def sf244 : FT 1 1 := fun a1 m t s d k =>
force a1 fun v2 =>
force (ifB (ble (succ (xor (land (shiftRight v2 320) 18446744073709551615) 9223372036854775808)) 9223372036854775809) 1 0) fun v3 =>
k v3 m t s d
noncomputable def e244 : FunE := ⟨[.agg (lay 368)], [.one .bool], wrapF 1 1 sf244⟩
noncomputable def i244 : FI := ⟨6, [1], [1, 2], [], []⟩
def a244 : An := (.sq .reg (.sq .reg .ret))
theorem q244 : AllN 1 fun l => ∀ m t s d k, R.denF i244 a244 (bodyOf Tryz.f244) Tryz.f244.results.toList e244.ps e244.rs l ⟨m, t, s, d⟩ k = wrapF 1 1 sf244 l ⟨m, t, s, d⟩ k := by
  intro x0 m t s d k
  kernel_rfl
theorem ok244 : FunOK Tryz.prog 244 e244 := fun_ok facts mixed (I := i244) FnsOK.nil Tryz.func244 (by kernel_rfl) (by kernel_rfl) (by kernel_rfl) (an := a244) (by kernel_rfl) (by kernel_rfl) q244
noncomputable def sf290 : FT 2 1 := fun a1 a2 m t s d k =>
join (fun (m3 t3 s3 d3 : Nat) =>
k 18446744073709551615 m3 t3 s3 d3) fun J4 =>
force (land (shiftRight a1 28) 131071) fun v5 =>
loopN 5 (fun (_ _ _ _ _ : Nat) => false) (fun L8 (p6 m7 t7 s7 d7 : Nat) =>
ifB (ble (succ (xor p6 9223372036854775808)) (xor v5 9223372036854775808)) (
okB (ble (succ p6) (land (shiftRight a1 28) 131071)) <|
okB (beq (land (shiftRight d7 (shiftRight (add (land a1 268435455) (mul p6 384)) 6)) 63) 0) <|
ifB (beq (land a2 1023) 245) (
force (land (shiftRight m7 (add (land a1 268435455) (mul p6 384))) (mask 6)) fun v9 =>
sf244 v9 m7 t7 s7 d7 fun r10 m11 t11 s11 d11 =>
ifB (beq r10 1) (
k p6 m11 t11 s11 d11) <|
force (mod (add p6 1) 18446744073709551616) fun v12 =>
L8 v12 m11 t11 s11 d11) <|
false) <|
J4 m7 t7 s7 d7) 0 m t s d
noncomputable def e290 : FunE := ⟨[.sli (lay 368), .one .fn], [.one (.int .i64)], wrapF 2 1 sf290⟩
noncomputable def i290 : FI := ⟨19, [], [4, 5, 7, 8, 9, 16], [(244, e244)], [(16, [244])]⟩
def a290 : An := (.sq .reg (.sj [] (.sq .reg (.bl (.lp [(8, .sh (.one (.int .i64)))] 5 (.sq .reg (.sq (.cd .skip .ex) (.sq (.bl (.sq .reg (.sq .reg (.cd (.sq .reg .ret) .skip)))) .reg)))))) (.sq .reg .ret)))
theorem q290 : AllN 2 fun l => ∀ m t s d k, R.denF i290 a290 (bodyOf Tryz.f290) Tryz.f290.results.toList e290.ps e290.rs l ⟨m, t, s, d⟩ k = wrapF 2 1 sf290 l ⟨m, t, s, d⟩ k := by
  intro x0 x1 m t s d k
  kernel_rfl
theorem ok290 : FunOK Tryz.prog 290 e290 := fun_ok facts mixed (I := i290) (FnsOK.cons ok244 FnsOK.nil) Tryz.func290 (by kernel_rfl) (by kernel_rfl) (by kernel_rfl) (an := a290) (by kernel_rfl) (by kernel_rfl) q290
noncomputable def sf243 : FT 2 1 := fun a1 a2 m t s d k =>
sf290 a1 a2 m t s d fun r3 m4 t4 s4 d4 =>
ifB (beq r3 18446744073709551615) (
k a1 m4 t4 s4 d4) <|
join (fun (p5 m6 t6 s6 d6 : Nat) =>
okB (ifB (ble p5 (land (shiftRight a1 28) 131071)) (ble (land (shiftRight a1 28) 131071) (land (shiftRight a1 45) 131071)) false) <|
join (fun (m8 t8 s8 d8 : Nat) =>
okB (ifB (ble 0 p5) (ble p5 (land (shiftRight a1 45) 131071)) false) <|
force (ifB (beq (land a1 268435455) 0) a1 (ifB (beq (add (sub (land (shiftRight a1 45) 131071) 0) (shiftRight a1 62)) 0) 9223372036854775808 (add (land a1 268435455) (shiftLeft (add (sub p5 0) (shiftLeft (add (sub (land (shiftRight a1 45) 131071) 0) (shiftLeft (shiftRight a1 62) 17)) 17)) 28)))) fun v10 =>
k v10 m8 t8 s8 d8) fun J9 =>
clrR (ifB (beq (land a1 268435455) 0) a1 (ifB (beq (add (sub (land (shiftRight a1 45) 131071) p5) (shiftRight a1 62)) 0) 9223372036854775808 (add (add (land a1 268435455) (mul p5 384)) (shiftLeft (add (sub (land (shiftRight a1 28) 131071) p5) (shiftLeft (add (sub (land (shiftRight a1 45) 131071) p5) (shiftLeft (shiftRight a1 62) 17)) 17)) 28)))) 6 m6 t6 s6 d6 J9) fun J7 =>
force (mod (add r3 1) 18446744073709551616) fun v11 =>
loopN 4 (fun (_ _ _ _ _ _ : Nat) => false) (fun L15 (p12 p13 m14 t14 s14 d14 : Nat) =>
ifB (ble (succ (xor p13 9223372036854775808)) (xor (land (shiftRight a1 28) 131071) 9223372036854775808)) (
false) <|
J7 p12 m14 t14 s14 d14) r3 v11 m4 t4 s4 d4
noncomputable def e243 : FunE := ⟨[.sli (lay 368), .one .fn], [.sli (lay 368)], wrapF 2 1 sf243⟩
noncomputable def i243 : FI := ⟨42, [7], [4, 5, 6, 7, 12, 19, 29], [(290, e290)], []⟩
def a243 : An := (.sq .reg (.sq .reg (.sq (.sq .reg (.cd (.sq .reg .ret) .skip)) (.sj [(5, .sh (.one (.int .i64)))] (.sq .reg (.bl (.lp [(5, .sh (.one (.int .i64))), (6, .sh (.one (.int .i64)))] 4 (.sq (.sq .reg (.cd .dead .ex)) .dead)))) (.sq .reg (.sq .reg .ret))))))
theorem q243 : AllN 2 fun l => ∀ m t s d k, R.denF i243 a243 (bodyOf Tryz.f243) Tryz.f243.results.toList e243.ps e243.rs l ⟨m, t, s, d⟩ k = wrapF 2 1 sf243 l ⟨m, t, s, d⟩ k := by
  intro x0 x1 m t s d k
  kernel_rfl
theorem ok243 : FunOK Tryz.prog 243 e243 := fun_ok facts mixed (I := i243) (FnsOK.cons ok290 FnsOK.nil) Tryz.func243 (by kernel_rfl) (by kernel_rfl) (by kernel_rfl) (an := a243) (by kernel_rfl) (by kernel_rfl) q243
end Go.Proofs.YtaekfgbfpfecdaaGreat.VM
