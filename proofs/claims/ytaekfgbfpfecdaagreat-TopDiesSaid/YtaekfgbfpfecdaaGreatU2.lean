/- Functions of the program, printed: U2; no conditions. -/
import Derived.Test.YtaekfgbfpfecdaaGreatU1
namespace Go.Proofs.YtaekfgbfpfecdaaGreat.VM
open Go R
open Nat (land shiftRight beq add xor shiftLeft ble succ mod mul sub div lor pow)
set_option linter.unusedVariables false
set_option maxRecDepth 1000000
noncomputable section
def sf243 : FT 2 1 := fun a1 a2 m t s d k =>
sf290 a1 a2 m t s d fun r3 m4 t4 s4 d4 =>
ifB (beq r3 18446744073709551615) (
k a1 m4 t4 s4 d4) <|
join (fun (p5 m6 t6 s6 d6 : Nat) =>
okB (ifB (ble p5 (land (shiftRight a1 28) 131071)) (ble (land (shiftRight a1 28) 131071) (land (shiftRight a1 45) 131071)) false) <|
join (fun (m8 t8 s8 d8 : Nat) =>
okB (ifB (ble 0 p5) (ble p5 (land (shiftRight a1 45) 131071)) false) <|
force (ifB (beq (land a1 268435455) 0) a1 (ifB (beq (add (sub (land (shiftRight a1 45) 131071) 0) (shiftRight a1 62)) 0) 9223372036854775808 (add (land a1 268435455) (shiftLeft (add (sub p5 0) (shiftLeft (add (sub (land (shiftRight a1 45) 131071) 0) (shiftLeft (shiftRight a1 62) 17)) 17)) 28)))) fun v10 =>
k v10 m8 t8 s8 d8) fun J9 =>
clrR (ifB (beq (land a1 268435455) 0) a1 (ifB (beq (add (sub (land (shiftRight a1 45) 131071) p5) (shiftRight a1 62)) 0) 9223372036854775808 (add (add (land a1 268435455) (mul p5 384)) (shiftLeft (add (sub (land (shiftRight a1 28) 131071) p5) (shiftLeft (add (sub (land (shiftRight a1 45) 131071) p5) (shiftLeft (shiftRight a1 62) 17)) 17)) 28)))) 6 m6 t6 s6 d6 J9) fun J7 =>
force (mod (add r3 1) 18446744073709551616) fun v11 =>
loopN 4 (fun (_ _ _ _ _ _ : Nat) => false) (fun L15 (p12 p13 m14 t14 s14 d14 : Nat) =>
ifB (ble (succ (xor p13 9223372036854775808)) (xor (land (shiftRight a1 28) 131071) 9223372036854775808)) (
false) <|
J7 p12 m14 t14 s14 d14) r3 v11 m4 t4 s4 d4
def e243 : FunE := ⟨[.sli (lay 368), .one .fn], [.sli (lay 368)], wrapF 2 1 sf243⟩
def i243 : FI := ⟨42, [7], [4, 5, 6, 7, 12, 19, 29], [(290, e290)], []⟩
def a243 : An := (.sq .reg (.sq .reg (.sq (.sq .reg (.cd (.sq .reg .ret) .skip)) (.sj [(5, .sh (.one (.int .i64)))] (.sq .reg (.bl (.lp [(5, .sh (.one (.int .i64))), (6, .sh (.one (.int .i64)))] 4 (.sq (.sq .reg (.cd .dead .ex)) .dead)))) (.sq .reg (.sq .reg .ret))))))
theorem q243 : AllN 2 fun l => ∀ m t s d k, R.denF i243 a243 (bodyOf Tryz.f243) Tryz.f243.results.toList e243.ps e243.rs l ⟨m, t, s, d⟩ k = wrapF 2 1 sf243 l ⟨m, t, s, d⟩ k := by
  intro x0 x1 m t s d k
  kernel_rfl
theorem ok243 : FunOK Tryz.prog 243 e243 := fun_ok facts mixed (I := i243) (FnsOK.cons ok290 FnsOK.nil) Tryz.func243 (by kernel_rfl) (by kernel_rfl) (by kernel_rfl) (an := a243) (by kernel_rfl) (by kernel_rfl) q243
def sf172 : FT 2 1 := fun a1 a2 m t s d k =>
sf242 a1 m t s d fun r3 m4 t4 s4 d4 =>
okB (ifB (beq a1 0) false true) <|
force (xor (land (shiftRight m4 a1) 18446744073709551615) r3) fun v5 =>
force (xor m4 (xor (shiftLeft v5 a1) (mod (add v5 a1) 2305843009213693951))) fun m6 =>
join (fun (p7 m8 t8 s8 d8 : Nat) =>
okB (ifB (beq a1 0) false true) <|
force (land (shiftRight m8 a1) 18446744073709551615) fun v10 =>
sf243 v10 245 m8 t8 s8 d8 fun r11 m12 t12 s12 d12 =>
okB (ifB (beq a1 0) false true) <|
force (xor (land (shiftRight m12 a1) 18446744073709551615) r11) fun v13 =>
force (xor m12 (xor (shiftLeft v13 a1) (mod (add v13 a1) 2305843009213693951))) fun m14 =>
k p7 m14 t12 s12 d12) fun J9 =>
okB (ifB (beq a1 0) false true) <|
force (ifB (ble (succ (xor (ifB (ble (succ (xor a2 9223372036854775808)) (xor (land (shiftRight (land (shiftRight m6 a1) 18446744073709551615) 28) 131071) 9223372036854775808)) a2 (land (shiftRight (land (shiftRight m6 a1) 18446744073709551615) 28) 131071)) 9223372036854775808)) 9223372036854775808) 0 (ifB (ble (succ (xor a2 9223372036854775808)) (xor (land (shiftRight (land (shiftRight m6 a1) 18446744073709551615) 28) 131071) 9223372036854775808)) a2 (land (shiftRight (land (shiftRight m6 a1) 18446744073709551615) 28) 131071))) fun v15 =>
loopN 5 (fun (_ _ _ _ _ _ : Nat) => false) (fun L19 (p16 p17 m18 t18 s18 d18 : Nat) =>
ifB (ble (succ (xor p17 9223372036854775808)) (xor v15 9223372036854775808)) (
okB (ifB (beq a1 0) false true) <|
force (land (shiftRight m18 a1) 18446744073709551615) fun v20 =>
okB (ble (succ p17) (land (shiftRight v20 28) 131071)) <|
okB (beq (land (shiftRight d18 (shiftRight (add (add (land v20 268435455) (mul p17 384)) 320) 6)) 1) 0) <|
okB (ble (succ p17) (land (shiftRight v20 28) 131071)) <|
okB (beq (land (shiftRight d18 (shiftRight (add (add (land v20 268435455) (mul p17 384)) 320) 6)) 1) 0) <|
force (xor (land (shiftRight m18 (add (add (land v20 268435455) (mul p17 384)) 320)) 18446744073709551615) (mod (sub (add (land (shiftRight m18 (add (add (land v20 268435455) (mul p17 384)) 320)) 18446744073709551615) 18446744073709551616) 1) 18446744073709551616)) fun v21 =>
force (xor m18 (xor (shiftLeft v21 (add (add (land v20 268435455) (mul p17 384)) 320)) (mod (add v21 (add (add (land v20 268435455) (mul p17 384)) 320)) 2305843009213693951))) fun m22 =>
okB (ifB (beq a1 0) false true) <|
okB (ble (succ p17) (land (shiftRight (land (shiftRight m22 a1) 18446744073709551615) 28) 131071)) <|
okB (beq (land (shiftRight d18 (shiftRight (add (land (land (shiftRight m22 a1) 18446744073709551615) 268435455) (mul p17 384)) 6)) 31) 0) <|
force (land (shiftRight m22 (add (land (land (shiftRight m22 a1) 18446744073709551615) 268435455) (mul p17 384))) (mask 5)) fun v23 =>
join (fun (r24 m25 t25 s25 d25 : Nat) =>
force (mod (add p17 1) 18446744073709551616) fun v27 =>
L19 r24 v27 m25 t25 s25 d25) fun J26 =>
appR 5 p16 1 v23 m22 t18 s18 d18 J26) <|
J9 p16 m18 t18 s18 d18) 0 0 m6 t4 s4 d4
def e172 : FunE := ⟨[.ptr (lay 177) false false, .one (.int .i64)], [.sli (lay 53)], wrapF 2 1 sf172⟩
def i172 : FI := ⟨55, [43], [4, 5, 6, 19, 20, 21, 26, 27], [(242, e242), (243, e243)], []⟩
def a172 : An := (.sq .reg (.sq .reg (.sq .reg (.sj [(5, .sh (.sli (lay 53)))] (.sq .reg (.bl (.lp [(5, .sh (.sli (lay 53))), (20, .sh (.one (.int .i64)))] 5 (.sq .reg (.sq (.cd .skip .ex) (.sq (.bl (.sq .reg (.sq .reg .reg))) .reg)))))) (.sq .reg (.sq .reg .ret))))))
theorem q172 : AllN 2 fun l => ∀ m t s d k, R.denF i172 a172 (bodyOf Tryz.f172) Tryz.f172.results.toList e172.ps e172.rs l ⟨m, t, s, d⟩ k = wrapF 2 1 sf172 l ⟨m, t, s, d⟩ k := by
  intro x0 x1 m t s d k
  kernel_rfl
theorem ok172 : FunOK Tryz.prog 172 e172 := fun_ok facts mixed (I := i172) (FnsOK.cons ok242 (FnsOK.cons ok243 FnsOK.nil)) Tryz.func172 (by kernel_rfl) (by kernel_rfl) (by kernel_rfl) (an := a172) (by kernel_rfl) (by kernel_rfl) q172
def sf118 : FT 1 1 := fun a1 m t s d k =>
okB (ifB (beq a1 0) false true) <|
force (land (shiftRight m (add a1 1024)) 18446744073709551615) fun v2 =>
sf172 v2 8 m t s d fun r3 m4 t4 s4 d4 =>
k r3 m4 t4 s4 d4
def e118 : FunE := ⟨[.ptr (lay 104) false false], [.sli (lay 53)], wrapF 1 1 sf118⟩
def i118 : FI := ⟨8, [], [2], [(172, e172)], []⟩
def a118 : An := (.sq .reg (.sq .reg .ret))
theorem q118 : AllN 1 fun l => ∀ m t s d k, R.denF i118 a118 (bodyOf Tryz.f118) Tryz.f118.results.toList e118.ps e118.rs l ⟨m, t, s, d⟩ k = wrapF 1 1 sf118 l ⟨m, t, s, d⟩ k := by
  intro x0 m t s d k
  kernel_rfl
theorem ok118 : FunOK Tryz.prog 118 e118 := fun_ok facts mixed (I := i118) (FnsOK.cons ok172 FnsOK.nil) Tryz.func118 (by kernel_rfl) (by kernel_rfl) (by kernel_rfl) (an := a118) (by kernel_rfl) (by kernel_rfl) q118
def sf173 : FT 1 1 := fun a1 m t s d k =>
ifB (beq a1 0) (
false) <|
okB (beq (land (shiftRight d (shiftRight (land a1 268435455) 6)) (sub (shiftLeft 1 (mul (land (shiftRight a1 28) 131071) 1)) 1)) 0) <|
join (fun (r2 m3 t3 s3 d3 : Nat) =>
k r2 m3 t3 s3 d3) fun J4 =>
appR 1 (add (shiftLeft t 6) 4611686018427387904) (land (shiftRight a1 28) 131071) (land (shiftRight m (land a1 268435455)) (mask (mul (land (shiftRight a1 28) 131071) 1))) m t s d J4
def e173 : FunE := ⟨[.sli [.bool]], [.sli [.bool]], wrapF 1 1 sf173⟩
def i173 : FI := ⟨8, [], [2, 4], [], []⟩
def a173 : An := (.sq .reg (.sq (.sq .reg (.cd .dead .skip)) (.sq .reg .ret)))
theorem q173 : AllN 1 fun l => ∀ m t s d k, R.denF i173 a173 (bodyOf Tryz.f173) Tryz.f173.results.toList e173.ps e173.rs l ⟨m, t, s, d⟩ k = wrapF 1 1 sf173 l ⟨m, t, s, d⟩ k := by
  intro x0 m t s d k
  kernel_rfl
theorem ok173 : FunOK Tryz.prog 173 e173 := fun_ok facts mixed (I := i173) FnsOK.nil Tryz.func173 (by kernel_rfl) (by kernel_rfl) (by kernel_rfl) (an := a173) (by kernel_rfl) (by kernel_rfl) q173
def sf119 : FT 1 1 := fun a1 m t s d k =>
okB (ifB (beq a1 0) false true) <|
ifB (ifB (beq (land (shiftRight m (add a1 8640)) 18446744073709551615) 1) false true) (
force (ifB false 1 0) fun v2 =>
k v2 m t s d) <|
okB (ifB (beq a1 0) false true) <|
force (xor (land (shiftRight m (add a1 8640)) 18446744073709551615) (ifB false 1 0)) fun v3 =>
force (xor m (xor (shiftLeft v3 (add a1 8640)) (mod (add v3 (add a1 8640)) 2305843009213693951))) fun m4 =>
okB (ifB (beq a1 0) false true) <|
okB (ifB (beq a1 0) false true) <|
force (land (shiftRight m4 (add a1 8768)) 18446744073709551615) fun v5 =>
okB (beq (land (shiftRight m4 (add a1 8576)) 18446744073709551615) (land (shiftRight m4 (add a1 8576)) 18446744073709551615)) <|
join (fun (r6 m7 t7 s7 d7 : Nat) =>
okB (ifB (beq a1 0) false true) <|
force (xor (land (shiftRight m7 (add a1 8576)) 18446744073709551615) r6) fun v9 =>
force (xor m7 (xor (shiftLeft v9 (add a1 8576)) (mod (add v9 (add a1 8576)) 2305843009213693951))) fun m10 =>
okB (ifB (beq a1 0) false true) <|
okB (ifB (beq a1 0) false true) <|
okB (ifB (beq a1 0) false true) <|
okB (ifB (ble (ifB (ble (succ (xor (mod (sub (add (land (shiftRight (land (shiftRight m10 (add a1 8576)) 18446744073709551615) 28) 131071) 18446744073709551616) (land (shiftRight m10 a1) 18446744073709551615)) 18446744073709551616) 9223372036854775808)) 9223372036854775808) 0 (mod (sub (add (land (shiftRight (land (shiftRight m10 (add a1 8576)) 18446744073709551615) 28) 131071) 18446744073709551616) (land (shiftRight m10 a1) 18446744073709551615)) 18446744073709551616)) (land (shiftRight (land (shiftRight m10 (add a1 8576)) 18446744073709551615) 28) 131071)) (ble (land (shiftRight (land (shiftRight m10 (add a1 8576)) 18446744073709551615) 28) 131071) (land (shiftRight (land (shiftRight m10 (add a1 8576)) 18446744073709551615) 45) 131071)) false) <|
force (ifB (beq (land (land (shiftRight m10 (add a1 8576)) 18446744073709551615) 268435455) 0) (land (shiftRight m10 (add a1 8576)) 18446744073709551615) (ifB (beq (add (sub (land (shiftRight (land (shiftRight m10 (add a1 8576)) 18446744073709551615) 45) 131071) (ifB (ble (succ (xor (mod (sub (add (land (shiftRight (land (shiftRight m10 (add a1 8576)) 18446744073709551615) 28) 131071) 18446744073709551616) (land (shiftRight m10 a1) 18446744073709551615)) 18446744073709551616) 9223372036854775808)) 9223372036854775808) 0 (mod (sub (add (land (shiftRight (land (shiftRight m10 (add a1 8576)) 18446744073709551615) 28) 131071) 18446744073709551616) (land (shiftRight m10 a1) 18446744073709551615)) 18446744073709551616))) (shiftRight (land (shiftRight m10 (add a1 8576)) 18446744073709551615) 62)) 0) 9223372036854775808 (add (add (land (land (shiftRight m10 (add a1 8576)) 18446744073709551615) 268435455) (mul (ifB (ble (succ (xor (mod (sub (add (land (shiftRight (land (shiftRight m10 (add a1 8576)) 18446744073709551615) 28) 131071) 18446744073709551616) (land (shiftRight m10 a1) 18446744073709551615)) 18446744073709551616) 9223372036854775808)) 9223372036854775808) 0 (mod (sub (add (land (shiftRight (land (shiftRight m10 (add a1 8576)) 18446744073709551615) 28) 131071) 18446744073709551616) (land (shiftRight m10 a1) 18446744073709551615)) 18446744073709551616)) 64)) (shiftLeft (add (sub (land (shiftRight (land (shiftRight m10 (add a1 8576)) 18446744073709551615) 28) 131071) (ifB (ble (succ (xor (mod (sub (add (land (shiftRight (land (shiftRight m10 (add a1 8576)) 18446744073709551615) 28) 131071) 18446744073709551616) (land (shiftRight m10 a1) 18446744073709551615)) 18446744073709551616) 9223372036854775808)) 9223372036854775808) 0 (mod (sub (add (land (shiftRight (land (shiftRight m10 (add a1 8576)) 18446744073709551615) 28) 131071) 18446744073709551616) (land (shiftRight m10 a1) 18446744073709551615)) 18446744073709551616))) (shiftLeft (add (sub (land (shiftRight (land (shiftRight m10 (add a1 8576)) 18446744073709551615) 45) 131071) (ifB (ble (succ (xor (mod (sub (add (land (shiftRight (land (shiftRight m10 (add a1 8576)) 18446744073709551615) 28) 131071) 18446744073709551616) (land (shiftRight m10 a1) 18446744073709551615)) 18446744073709551616) 9223372036854775808)) 9223372036854775808) 0 (mod (sub (add (land (shiftRight (land (shiftRight m10 (add a1 8576)) 18446744073709551615) 28) 131071) 18446744073709551616) (land (shiftRight m10 a1) 18446744073709551615)) 18446744073709551616))) (shiftLeft (shiftRight (land (shiftRight m10 (add a1 8576)) 18446744073709551615) 62) 17)) 17)) 28)))) fun v11 =>
sf173 v11 m10 t7 s7 d7 fun r12 m13 t13 s13 d13 =>
okB (ifB (beq a1 0) false true) <|
force (xor (land (shiftRight m13 (add a1 8576)) 18446744073709551615) r12) fun v14 =>
force (xor m13 (xor (shiftLeft v14 (add a1 8576)) (mod (add v14 (add a1 8576)) 2305843009213693951))) fun m15 =>
force (ifB true 1 0) fun v16 =>
k v16 m15 t13 s13 d13) fun J8 =>
appR 1 (land (shiftRight m4 (add a1 8576)) 18446744073709551615) 1 v5 m4 t s d J8
def e119 : FunE := ⟨[.ptr (lay 183) false false], [.one .bool], wrapF 1 1 sf119⟩
def i119 : FI := ⟨44, [20], [2, 7], [(173, e173)], []⟩
def a119 : An := (.sq .reg (.sq (.sq .reg (.cd (.sq .reg .ret) .skip)) (.sq .reg (.sq (.drw [(0, 0), (1, 0), (2, 0), (3, 0), (4, 0), (5, 0), (6, 0), (7, 0), (8, 0), (9, 2), (10, 1), (11, 0), (12, 0), (13, 1)]) (.sq (.drw [(0, 0), (1, 0), (2, 0), (3, 0), (4, 0), (5, 0), (6, 0), (7, 0), (8, 0), (9, 0), (10, 0), (11, 0), (12, 0), (13, 0), (14, 0), (15, 0), (16, 0), (17, 1), (18, 0), (19, 0), (20, 1)]) (.sq .reg .ret))))))
theorem q119 : AllN 1 fun l => ∀ m t s d k, R.denF i119 a119 (bodyOf Tryz.f119) Tryz.f119.results.toList e119.ps e119.rs l ⟨m, t, s, d⟩ k = wrapF 1 1 sf119 l ⟨m, t, s, d⟩ k := by
  intro x0 m t s d k
  kernel_rfl
theorem ok119 : FunOK Tryz.prog 119 e119 := fun_ok facts mixed (I := i119) (FnsOK.cons ok173 FnsOK.nil) Tryz.func119 (by kernel_rfl) (by kernel_rfl) (by kernel_rfl) (an := a119) (by kernel_rfl) (by kernel_rfl) q119
def sf120 : FT 3 1 := fun a1 a2 a3 m t s d k =>
ifB (ble 4611686018427387905 a3) (
false) <|
okB (ifB (beq a1 0) false true) <|
force (land (shiftRight m (add a1 8640)) 18446744073709551615) fun v4 =>
ifB (beq v4 1) (
false) <|
okB (ifB (beq a1 0) false true) <|
force (xor (land (shiftRight m (add a1 8640)) 18446744073709551615) (ifB true 1 0)) fun v5 =>
force (xor m (xor (shiftLeft v5 (add a1 8640)) (mod (add v5 (add a1 8640)) 2305843009213693951))) fun m6 =>
okB (ifB (beq a1 0) false true) <|
force (xor (land (shiftRight m6 (add a1 8704)) 18446744073709551615) a2) fun v7 =>
force (xor m6 (xor (shiftLeft v7 (add a1 8704)) (mod (add v7 (add a1 8704)) 2305843009213693951))) fun m8 =>
okB (ifB (beq a1 0) false true) <|
force (xor (land (shiftRight m8 (add a1 8768)) 18446744073709551615) (ifB false 1 0)) fun v9 =>
force (xor m8 (xor (shiftLeft v9 (add a1 8768)) (mod (add v9 (add a1 8768)) 2305843009213693951))) fun m10 =>
k 0 m10 t s d
def e120 : FunE := ⟨[.ptr (lay 183) false false, .one (.int .u32), .one (.int .u64)], [.one (.int .i64)], wrapF 3 1 sf120⟩
def i120 : FI := ⟨25, [], [6, 7, 10], [], []⟩
def a120 : An := (.sq .reg (.sq (.bl (.sq .reg (.cd .dead (.sq .reg (.cd .dead .skip))))) (.sq .reg (.sq .reg .ret))))
theorem q120 : AllN 3 fun l => ∀ m t s d k, R.denF i120 a120 (bodyOf Tryz.f120) Tryz.f120.results.toList e120.ps e120.rs l ⟨m, t, s, d⟩ k = wrapF 3 1 sf120 l ⟨m, t, s, d⟩ k := by
  intro x0 x1 x2 m t s d k
  kernel_rfl
theorem ok120 : FunOK Tryz.prog 120 e120 := fun_ok facts mixed (I := i120) FnsOK.nil Tryz.func120 (by kernel_rfl) (by kernel_rfl) (by kernel_rfl) (an := a120) (by kernel_rfl) (by kernel_rfl) q120
def sf175 : FT 2 1 := fun a1 a2 m t s d k =>
force a1 fun v3 =>
force (ifB (beq (land (shiftRight v3 0) 18446744073709551615) (land (shiftRight m a2) 18446744073709551615)) 1 0) fun v4 =>
k v4 m t s d
def e175 : FunE := ⟨[.agg (lay 114), .ptr ([.int .i64]) false true], [.one .bool], wrapF 2 1 sf175⟩
def i175 : FI := ⟨8, [2], [2, 3], [], []⟩
def a175 : An := (.sq .reg (.sq .reg .ret))
theorem q175 : AllN 2 fun l => ∀ m t s d k, R.denF i175 a175 (bodyOf Tryz.f175) Tryz.f175.results.toList e175.ps e175.rs l ⟨m, t, s, d⟩ k = wrapF 2 1 sf175 l ⟨m, t, s, d⟩ k := by
  intro x0 x1 m t s d k
  kernel_rfl
theorem ok175 : FunOK Tryz.prog 175 e175 := fun_ok facts mixed (I := i175) FnsOK.nil Tryz.func175 (by kernel_rfl) (by kernel_rfl) (by kernel_rfl) (an := a175) (by kernel_rfl) (by kernel_rfl) q175
def sf174 : FT 2 1 := fun a1 a2 m t s d k =>
join (fun (m3 t3 s3 d3 : Nat) =>
k 18446744073709551615 m3 t3 s3 d3) fun J4 =>
force (land (shiftRight a1 28) 131071) fun v5 =>
loopN 5 (fun (_ _ _ _ _ : Nat) => false) (fun L8 (p6 m7 t7 s7 d7 : Nat) =>
ifB (ble (succ (xor p6 9223372036854775808)) (xor v5 9223372036854775808)) (
okB (ble (succ p6) (land (shiftRight a1 28) 131071)) <|
okB (beq (land (shiftRight d7 (shiftRight (add (land a1 268435455) (mul p6 256)) 6)) 15) 0) <|
ifB (beq (land a2 1023) 176) (
force (land (shiftRight m7 (add (land a1 268435455) (mul p6 256))) (mask 4)) fun v9 =>
force (shiftLeft (land (shiftRight a2 10) 4194303) 6) fun v10 =>
sf175 v9 v10 m7 t7 s7 d7 fun r11 m12 t12 s12 d12 =>
ifB (beq r11 1) (
k p6 m12 t12 s12 d12) <|
force (mod (add p6 1) 18446744073709551616) fun v13 =>
L8 v13 m12 t12 s12 d12) <|
false) <|
J4 m7 t7 s7 d7) 0 m t s d
def e174 : FunE := ⟨[.sli (lay 114), .one .fn], [.one (.int .i64)], wrapF 2 1 sf174⟩
def i174 : FI := ⟨19, [], [4, 5, 7, 8, 9, 16], [(175, e175)], [(16, [175])]⟩
def a174 : An := (.sq .reg (.sj [] (.sq .reg (.bl (.lp [(8, .sh (.one (.int .i64)))] 5 (.sq .reg (.sq (.cd .skip .ex) (.sq (.bl (.sq .reg (.sq .reg (.cd (.sq .reg .ret) .skip)))) .reg)))))) (.sq .reg .ret)))
theorem q174 : AllN 2 fun l => ∀ m t s d k, R.denF i174 a174 (bodyOf Tryz.f174) Tryz.f174.results.toList e174.ps e174.rs l ⟨m, t, s, d⟩ k = wrapF 2 1 sf174 l ⟨m, t, s, d⟩ k := by
  intro x0 x1 m t s d k
  kernel_rfl
theorem ok174 : FunOK Tryz.prog 174 e174 := fun_ok facts mixed (I := i174) (FnsOK.cons ok175 FnsOK.nil) Tryz.func174 (by kernel_rfl) (by kernel_rfl) (by kernel_rfl) (an := a174) (by kernel_rfl) (by kernel_rfl) q174
def sf121 : FT 2 2 := fun a1 a2 m t s d k =>
force (shiftLeft t 6) fun v3 =>
force (add t 1) fun t4 =>
okB (ble (succ t4) 4194304) <|
force (xor m (xor (shiftLeft a2 (shiftLeft t 6)) (mod (add a2 t) 2305843009213693951))) fun m5 =>
okB (ifB (beq a1 0) false true) <|
okB (ifB (beq v3 0) false (ble (succ v3) 268435456)) <|
force (land (shiftRight m5 (add a1 384)) 18446744073709551615) fun v6 =>
force (add 176 (shiftLeft (shiftRight v3 6) 10)) fun v7 =>
sf174 v6 v7 m5 t4 s d fun r8 m9 t9 s9 d9 =>
ifB (ble (succ (xor r8 9223372036854775808)) 9223372036854775808) (
force 0 fun v10 =>
force v10 fun v11 =>
force (ifB false 1 0) fun v12 =>
k v11 v12 m9 t9 s9 d9) <|
okB (ifB (beq a1 0) false true) <|
okB (ble (succ r8) (land (shiftRight (land (shiftRight m9 (add a1 384)) 18446744073709551615) 28) 131071)) <|
okB (beq (land (shiftRight d9 (shiftRight (add (land (land (shiftRight m9 (add a1 384)) 18446744073709551615) 268435455) (mul r8 256)) 6)) 15) 0) <|
force (land (shiftRight m9 (add (land (land (shiftRight m9 (add a1 384)) 18446744073709551615) 268435455) (mul r8 256))) (mask 4)) fun v13 =>
force v13 fun v14 =>
force (ifB true 1 0) fun v15 =>
k v14 v15 m9 t9 s9 d9
def e121 : FunE := ⟨[.ptr (lay 104) false false, .one (.int .i64)], [.agg (lay 114), .one .bool], wrapF 2 2 sf121⟩
def i121 : FI := ⟨25, [4], [3, 4, 5, 6, 15], [(174, e174)], []⟩
def a121 : An := (.sq .reg (.sq .reg (.sq (.sq .reg (.cd (.sq .reg .ret) .skip)) (.sq .reg .ret))))
theorem q121 : AllN 2 fun l => ∀ m t s d k, R.denF i121 a121 (bodyOf Tryz.f121) Tryz.f121.results.toList e121.ps e121.rs l ⟨m, t, s, d⟩ k = wrapF 2 2 sf121 l ⟨m, t, s, d⟩ k := by
  intro x0 x1 m t s d k
  kernel_rfl
theorem ok121 : FunOK Tryz.prog 121 e121 := fun_ok facts mixed (I := i121) (FnsOK.cons ok174 FnsOK.nil) Tryz.func121 (by kernel_rfl) (by kernel_rfl) (by kernel_rfl) (an := a121) (by kernel_rfl) (by kernel_rfl) q121
def sf122 : FT 2 2 := fun a1 a2 m t s d k =>
ifB (beq (land (shiftRight a2 28) 131071) 0) (
force (ifB false 1 0) fun v3 =>
k 0 v3 m t s d) <|
okB (ifB (beq a1 0) false true) <|
ifB (beq (land (shiftRight (land (shiftRight m (add a1 64)) 18446744073709551615) 28) 131071) 0) (
okB (ifB (beq a1 0) false true) <|
force (land (shiftRight m a1) 18446744073709551615) fun v4 =>
sf176 v4 a2 m t s d fun r5 r6 m7 t7 s7 d7 =>
okB (ifB (beq a1 0) false true) <|
force (xor (land (shiftRight m7 (add a1 64)) 18446744073709551615) r5) fun v8 =>
force (xor m7 (xor (shiftLeft v8 (add a1 64)) (mod (add v8 (add a1 64)) 2305843009213693951))) fun m9 =>
okB (ifB (beq a1 0) false true) <|
force (xor (land (shiftRight m9 a1) 18446744073709551615) r6) fun v10 =>
force (xor m9 (xor (shiftLeft v10 a1) (mod (add v10 a1) 2305843009213693951))) fun m11 =>
okB (ifB (beq a1 0) false true) <|
okB (ble 1 (land (shiftRight (land (shiftRight m11 (add a1 64)) 18446744073709551615) 28) 131071)) <|
okB (beq (land (shiftRight d7 (shiftRight (add (land (land (shiftRight m11 (add a1 64)) 18446744073709551615) 268435455) 0) 6)) 1) 0) <|
okB (ifB (beq a1 0) false true) <|
okB (ifB (ble 1 (land (shiftRight (land (shiftRight m11 (add a1 64)) 18446744073709551615) 28) 131071)) (ble (land (shiftRight (land (shiftRight m11 (add a1 64)) 18446744073709551615) 28) 131071) (land (shiftRight (land (shiftRight m11 (add a1 64)) 18446744073709551615) 45) 131071)) false) <|
force (land (shiftRight m11 (add (land (land (shiftRight m11 (add a1 64)) 18446744073709551615) 268435455) 0)) 18446744073709551615) fun v12 =>
okB (ifB (beq a1 0) false true) <|
force (xor (land (shiftRight m11 (add a1 64)) 18446744073709551615) (ifB (beq (land (land (shiftRight m11 (add a1 64)) 18446744073709551615) 268435455) 0) (land (shiftRight m11 (add a1 64)) 18446744073709551615) (ifB (beq (add (sub (land (shiftRight (land (shiftRight m11 (add a1 64)) 18446744073709551615) 45) 131071) 1) (shiftRight (land (shiftRight m11 (add a1 64)) 18446744073709551615) 62)) 0) 9223372036854775808 (add (add (land (land (shiftRight m11 (add a1 64)) 18446744073709551615) 268435455) 64) (shiftLeft (add (sub (land (shiftRight (land (shiftRight m11 (add a1 64)) 18446744073709551615) 28) 131071) 1) (shiftLeft (add (sub (land (shiftRight (land (shiftRight m11 (add a1 64)) 18446744073709551615) 45) 131071) 1) (shiftLeft (shiftRight (land (shiftRight m11 (add a1 64)) 18446744073709551615) 62) 17)) 17)) 28))))) fun v13 =>
force (xor m11 (xor (shiftLeft v13 (add a1 64)) (mod (add v13 (add a1 64)) 2305843009213693951))) fun m14 =>
sf77 a2 v12 m14 t7 s7 d7 fun r15 m16 t16 s16 d16 =>
ifB (ifB (beq r15 1) false true) (
false) <|
force (ifB true 1 0) fun v17 =>
k v12 v17 m16 t16 s16 d16) <|
false
def e122 : FunE := ⟨[.ptr (lay 169) false false, .sli ([.int .i64])], [.one (.int .i64), .one .bool], wrapF 2 2 sf122⟩
def i122 : FI := ⟨50, [], [4, 5, 6, 9, 15, 16, 48], [(77, e77), (176, e176)], []⟩
def a122 : An := (.sq .reg (.sc (.sq .reg (.sq (.sq .reg (.cd (.sq .reg .ret) .skip)) (.sq .skip (.sq (.sq .reg (.cd .reg .dead)) (.sq (.drw [(0, 0), (1, 0), (2, 0), (3, 0), (4, 0), (5, 0), (6, 0), (7, 0), (8, 0), (9, 0), (10, 0), (11, 0), (12, 0), (13, 0), (14, 0), (15, 1)]) (.sq (.sq .reg (.cd .dead .skip)) (.sq .reg .ret)))))))))
theorem q122 : AllN 2 fun l => ∀ m t s d k, R.denF i122 a122 (bodyOf Tryz.f122) Tryz.f122.results.toList e122.ps e122.rs l ⟨m, t, s, d⟩ k = wrapF 2 2 sf122 l ⟨m, t, s, d⟩ k := by
  intro x0 x1 m t s d k
  kernel_rfl
theorem ok122 : FunOK Tryz.prog 122 e122 := fun_ok facts mixed (I := i122) (FnsOK.cons ok77 (FnsOK.cons ok176 FnsOK.nil)) Tryz.func122 (by kernel_rfl) (by kernel_rfl) (by kernel_rfl) (an := a122) (by kernel_rfl) (by kernel_rfl) q122
def sf123 : FT 4 2 := fun a1 a2 a3 a4 m t s d k =>
force a1 fun v5 =>
okB (ifB (ble (succ (xor a2 9223372036854775808)) 9223372036854775809) true (ifB (ble (succ (xor a2 9223372036854775808)) 9223372036854775809) false true)) <|
okB (ifB (ifB (ble (succ (xor a2 9223372036854775808)) 9223372036854775809) true (ble 9223372036854775841 (xor a2 9223372036854775808))) true (ifB (ifB (ble (succ (xor a2 9223372036854775808)) 9223372036854775809) true (ble 9223372036854775841 (xor a2 9223372036854775808))) false true)) <|
ifB (ifB (ifB (ble (succ (xor a2 9223372036854775808)) 9223372036854775809) true (ble 9223372036854775841 (xor a2 9223372036854775808))) true (ble 4611686018427387905 a4)) (
false) <|
ifB (ifB (beq (land (shiftRight v5 0) 18446744073709551615) 0) false true) (
false) <|
force v5 fun v6 =>
sf170 v6 m t s d fun r7 m8 t8 s8 d8 =>
force r7 fun v9 =>
force (xor v9 (shiftLeft (xor (land (shiftRight v9 0) 18446744073709551615) 1) 0)) fun v10 =>
okB (beq (land (shiftRight v5 320) 18446744073709551615) (land (shiftRight v5 320) 18446744073709551615)) <|
force (xor v10 (shiftLeft (xor (land (shiftRight v10 64) 18446744073709551615) a2) 64)) fun v11 =>
okB (beq (land (shiftRight v5 320) 18446744073709551615) (land (shiftRight v5 320) 18446744073709551615)) <|
force (xor v11 (shiftLeft (xor (land (shiftRight v11 192) 18446744073709551615) a3) 192)) fun v12 =>
okB (beq (land (shiftRight v5 320) 18446744073709551615) (land (shiftRight v5 320) 18446744073709551615)) <|
force (xor v12 (shiftLeft (xor (land (shiftRight v12 256) 18446744073709551615) (mod (add a4 (land (shiftRight v5 320) 18446744073709551615)) 18446744073709551616)) 256)) fun v13 =>
force v13 fun v14 =>
force v14 fun v15 =>
k v15 0 m8 t8 s8 d8
def e123 : FunE := ⟨[.agg (lay 95), .one (.int .i64), .one (.int .u32), .one (.int .u64)], [.agg (lay 95), .one (.int .i64)], wrapF 4 2 sf123⟩
def i123 : FI := ⟨39, [4, 8, 10], [4, 8, 9, 10, 13, 17, 20, 24], [(170, e170)], []⟩
def a123 : An := (.sq .reg (.sq (.sq .reg (.cd .dead .skip)) (.sq (.sq .reg (.cd .dead .skip)) (.sq .reg (.sq (.drw [(0, 0), (1, 0), (2, 0), (3, 0), (4, 0), (5, 0), (6, 0), (7, 1), (8, 0), (9, 1), (10, 0), (11, 1), (12, 0), (13, 1)]) (.sq .reg .ret))))))
theorem q123 : AllN 4 fun l => ∀ m t s d k, R.denF i123 a123 (bodyOf Tryz.f123) Tryz.f123.results.toList e123.ps e123.rs l ⟨m, t, s, d⟩ k = wrapF 4 2 sf123 l ⟨m, t, s, d⟩ k := by
  intro x0 x1 x2 x3 m t s d k
  kernel_rfl
theorem ok123 : FunOK Tryz.prog 123 e123 := fun_ok facts mixed (I := i123) (FnsOK.cons ok170 FnsOK.nil) Tryz.func123 (by kernel_rfl) (by kernel_rfl) (by kernel_rfl) (an := a123) (by kernel_rfl) (by kernel_rfl) q123
def sf124 : FT 3 1 := fun a1 a2 a3 m t s d k =>
sf177 a2 m t s d fun r4 m5 t5 s5 d5 =>
okB (ifB (ifB (beq r4 1) false true) true (ifB (ifB (beq r4 1) false true) false true)) <|
ifB (ifB (ifB (beq r4 1) false true) true (ble 4611686018427387905 a3)) (
false) <|
okB (ifB (beq a1 0) false true) <|
okB (ble (succ a2) 33) <|
ifB (ifB (beq (land (shiftRight m5 (add (add (add a1 256) (mul a2 448)) 64)) 18446744073709551615) 0) false true) (
k 6 m5 t5 s5 d5) <|
okB (ifB (beq a1 0) false true) <|
okB (ble (succ a2) 33) <|
force (xor (land (shiftRight m5 (add (add a1 256) (mul a2 448))) (mask 7)) (xor (xor a2 36893488147419103232) (shiftLeft a3 320))) fun v6 =>
force (xor m5 (xor (shiftLeft v6 (add (add a1 256) (mul a2 448))) (mod (add v6 (add (add a1 256) (mul a2 448))) 2305843009213693951))) fun m7 =>
k 0 m7 t5 s5 d5
def e124 : FunE := ⟨[.ptr (lay 198) false false, .one (.int .i64), .one (.int .u64)], [.one (.int .i64)], wrapF 3 1 sf124⟩
def i124 : FI := ⟨30, [], [6, 10, 13, 21], [(177, e177)], []⟩
def a124 : An := (.sq .reg (.sq (.sq .reg (.cd .dead .skip)) (.sq (.sq .reg (.cd (.sq .reg .ret) .skip)) (.sq .reg (.sq .reg .ret)))))
theorem q124 : AllN 3 fun l => ∀ m t s d k, R.denF i124 a124 (bodyOf Tryz.f124) Tryz.f124.results.toList e124.ps e124.rs l ⟨m, t, s, d⟩ k = wrapF 3 1 sf124 l ⟨m, t, s, d⟩ k := by
  intro x0 x1 x2 m t s d k
  kernel_rfl
theorem ok124 : FunOK Tryz.prog 124 e124 := fun_ok facts mixed (I := i124) (FnsOK.cons ok177 FnsOK.nil) Tryz.func124 (by kernel_rfl) (by kernel_rfl) (by kernel_rfl) (an := a124) (by kernel_rfl) (by kernel_rfl) q124
def sf89 : FT 2 0 := fun a1 a2 m t s d k =>
join (fun (p3 m4 t4 s4 d4 : Nat) =>
okB (ifB (beq a1 0) false true) <|
okB (ifB (beq a1 0) false true) <|
force (xor (land (shiftRight m4 (add a1 2048)) 18446744073709551615) (mod (add a2 (land (shiftRight m4 (add a1 448)) 18446744073709551615)) 18446744073709551616)) fun v6 =>
force (xor m4 (xor (shiftLeft v6 (add a1 2048)) (mod (add v6 (add a1 2048)) 2305843009213693951))) fun m7 =>
okB (ifB (beq a1 0) false true) <|
force (land (shiftRight m7 (add a1 1664)) 18446744073709551615) fun v8 =>
sf119 v8 m7 t4 s4 d4 fun r9 m10 t10 s10 d10 =>
okB (ifB (beq a1 0) false true) <|
okB (ifB (beq a1 0) false true) <|
force (xor (land (shiftRight m10 (add a1 1984)) 18446744073709551615) (mod (add (land (shiftRight m10 (add a1 1984)) 18446744073709551615) 1) 4294967296)) fun v11 =>
force (xor m10 (xor (shiftLeft v11 (add a1 1984)) (mod (add v11 (add a1 1984)) 2305843009213693951))) fun m12 =>
okB (ifB (beq a1 0) false true) <|
okB (ifB (beq a1 0) false true) <|
force (land (shiftRight m12 (add a1 1664)) 18446744073709551615) fun v13 =>
force (land (shiftRight m12 (add a1 1984)) 18446744073709551615) fun v14 =>
sf120 v13 v14 a2 m12 t10 s10 d10 fun r15 m16 t16 s16 d16 =>
join (fun (m17 t17 s17 d17 : Nat) =>
okB (ifB (beq a1 0) false true) <|
ifB (ifB (beq (land (shiftRight m17 (add a1 1152)) 18446744073709551615) 0) false true) (
k m17 t17 s17 d17) <|
okB (ifB (beq a1 0) false true) <|
sf107 a1 0 m17 t17 s17 d17 fun r19 m20 t20 s20 d20 =>
okB (beq (land (shiftRight m20 (add a1 1088)) 18446744073709551615) (land (shiftRight m17 (add a1 1088)) 18446744073709551615)) <|
force (land (shiftRight m17 (add a1 1088)) 18446744073709551615) fun v21 =>
sf122 v21 r19 m20 t20 s20 d20 fun r22 r23 m24 t24 s24 d24 =>
ifB (ifB (beq r23 1) false true) (
k m24 t24 s24 d24) <|
okB (ifB (beq a1 0) false true) <|
okB (ifB (beq a1 0) false true) <|
force (xor (land (shiftRight m24 (add a1 1984)) 18446744073709551615) (mod (add (land (shiftRight m24 (add a1 1984)) 18446744073709551615) 1) 4294967296)) fun v25 =>
force (xor m24 (xor (shiftLeft v25 (add a1 1984)) (mod (add v25 (add a1 1984)) 2305843009213693951))) fun m26 =>
okB (ifB (beq a1 0) false true) <|
okB (ifB (beq a1 0) false true) <|
force (land (shiftRight m26 (add a1 1152)) (mask 7)) fun v27 =>
force (land (shiftRight m26 (add a1 1984)) 18446744073709551615) fun v28 =>
sf123 v27 r22 v28 a2 m26 t24 s24 d24 fun r29 r30 m31 t31 s31 d31 =>
okB (ifB (beq a1 0) false true) <|
force (xor (land (shiftRight m31 (add a1 1152)) (mask 7)) r29) fun v32 =>
force (xor m31 (xor (shiftLeft v32 (add a1 1152)) (mod (add v32 (add a1 1152)) 2305843009213693951))) fun m33 =>
okB (ifB (beq a1 0) false true) <|
sf118 a1 m33 t31 s31 d31 fun r34 m35 t35 s35 d35 =>
okB (beq (land (shiftRight m35 (add a1 1984)) 18446744073709551615) (land (shiftRight m33 (add a1 1984)) 18446744073709551615)) <|
force (xor (xor (xor 1 (shiftLeft (land (shiftRight m33 (add a1 1984)) 18446744073709551615) 128)) (shiftLeft r22 192)) (shiftLeft r34 576)) fun v36 =>
sf108 a1 r22 v36 m35 t35 s35 d35 fun r37 m38 t38 s38 d38 =>
sf121 a1 r22 m38 t38 s38 d38 fun r39 r40 m41 t41 s41 d41 =>
force r39 fun v42 =>
ifB (ifB (beq r40 1) false true) (
okB (ifB (beq a1 0) false true) <|
force (land (shiftRight m41 (add a1 1856)) 18446744073709551615) fun v43 =>
sf124 v43 r22 a2 m41 t41 s41 d41 fun r44 m45 t45 s45 d45 =>
k m45 t45 s45 d45) <|
k m41 t41 s41 d41) fun J18 =>
okB (ifB (beq a1 0) false true) <|
force (land (shiftRight m16 (add a1 1088)) 18446744073709551615) fun v46 =>
sf117 v46 p3 1 m16 t16 s16 d16 fun r47 m48 t48 s48 d48 =>
force (land (shiftRight r47 28) 131071) fun v49 =>
loopN 5 (fun (_ _ _ _ _ : Nat) => false) (fun L52 (p50 m51 t51 s51 d51 : Nat) =>
ifB (ble (succ (xor p50 9223372036854775808)) (xor v49 9223372036854775808)) (
okB (ble (succ p50) (land (shiftRight r47 28) 131071)) <|
okB (beq (land (shiftRight d51 (shiftRight (add (land r47 268435455) (mul p50 64)) 6)) 1) 0) <|
force (land (shiftRight m51 (add (land r47 268435455) (mul p50 64))) 18446744073709551615) fun v53 =>
sf121 a1 v53 m51 t51 s51 d51 fun r54 r55 m56 t56 s56 d56 =>
force r54 fun v57 =>
okB (ifB (beq a1 0) false true) <|
okB (ifB (beq a1 0) false true) <|
force (land (shiftRight v57 64) 340282366920938463463374607431768211455) fun v58 =>
force (xor (xor 6 (shiftLeft (land (shiftRight m56 (add a1 1984)) 18446744073709551615) 128)) (shiftLeft (land (shiftRight m56 (add (add a1 640) 192)) 340282366920938463463374607431768211455) 256)) fun v59 =>
sf105 a1 v58 v59 m56 t56 s56 d56 fun m60 t60 s60 d60 =>
force (mod (add p50 1) 18446744073709551616) fun v61 =>
L52 v61 m60 t60 s60 d60) <|
J18 m51 t51 s51 d51) 0 m48 t48 s48 d48) fun J5 =>
okB (ifB (beq a1 0) false true) <|
force (land (shiftRight m (add a1 384)) 18446744073709551615) fun v62 =>
force (land (shiftRight v62 28) 131071) fun v63 =>
loopN 5 (fun (_ _ _ _ _ _ : Nat) => false) (fun L67 (p64 p65 m66 t66 s66 d66 : Nat) =>
ifB (ble (succ (xor p65 9223372036854775808)) (xor v63 9223372036854775808)) (
join (fun (p68 m69 t69 s69 d69 : Nat) =>
force (mod (add p65 1) 18446744073709551616) fun v71 =>
L67 p68 v71 m69 t69 s69 d69) fun J70 =>
okB (ble (succ p65) (land (shiftRight v62 28) 131071)) <|
okB (beq (land (shiftRight d66 (shiftRight (add (land v62 268435455) (mul p65 256)) 6)) 15) 0) <|
force (land (shiftRight m66 (add (land v62 268435455) (mul p65 256))) (mask 4)) fun v72 =>
okB (ifB (beq a1 0) false true) <|
ifB (ifB (beq (land (shiftRight v72 0) 18446744073709551615) (land (shiftRight m66 a1) 18446744073709551615)) false true) (
force (land (shiftRight v72 0) 18446744073709551615) fun v73 =>
join (fun (r74 m75 t75 s75 d75 : Nat) =>
J70 r74 m75 t75 s75 d75) fun J76 =>
appR 1 p64 1 v73 m66 t66 s66 d66 J76) <|
J70 p64 m66 t66 s66 d66) <|
J5 p64 m66 t66 s66 d66) 0 0 m t s d
def e89 : FunE := ⟨[.ptr (lay 104) false false, .one (.int .u64)], [], wrapF 2 0 sf89⟩
def i89 : FI := ⟨171, [6, 9, 13, 36], [4, 6, 8, 9, 11, 12, 14, 19, 20, 21, 22, 32, 54, 76, 77, 78, 79, 82, 108, 109, 120, 121, 128, 156, 163], [(105, e105), (107, e107), (108, e108), (117, e117), (118, e118), (119, e119), (120, e120), (121, e121), (122, e122), (123, e123), (124, e124)], []⟩
def a89 : An := (.sq .reg (.sj [(4, .sh (.sli ([.int .i64])))] (.sq .reg (.bl (.lp [(4, .sh (.sli ([.int .i64]))), (21, .sh (.one (.int .i64)))] 5 (.sq .reg (.sq (.cd .skip .ex) (.sj [(4, .sh (.sli ([.int .i64])))] (.bl (.sq .reg (.sq (.drw [(0, 0), (1, 0), (2, 0), (3, 0), (4, 0), (5, 0), (6, 0), (7, 0)]) (.cd .reg .skip)))) .reg)))))) (.sq .reg (.sq .reg (.sq .reg (.sq (.drw [(0, 0), (1, 0), (2, 0), (3, 0), (4, 0), (5, 0), (6, 0), (7, 0), (8, 0), (9, 1)]) (.sj [] (.sq .reg (.bl (.lp [(78, .sh (.one (.int .i64)))] 5 (.sq .reg (.sq (.cd .skip .ex) (.sq (.bl (.sq .reg (.sq .reg (.drw [(0, 0), (1, 0), (2, 0), (3, 0), (4, 0), (5, 0), (6, 0), (7, 0), (8, 0), (9, 0), (10, 0), (11, 0), (12, 0), (13, 1)])))) .reg)))))) (.sq (.sq .reg (.cd .ret .skip)) (.sq (.drw [(0, 0), (1, 0), (2, 0), (3, 0), (4, 0), (5, 1), (6, 1), (7, 0), (8, 0), (9, 0), (10, 0), (11, 0)]) (.sq (.sq .reg (.cd .ret .skip)) (.sq .reg (.sq (.drw [(0, 0), (1, 0), (2, 0), (3, 0), (4, 0), (5, 0), (6, 0), (7, 0), (8, 0), (9, 0), (10, 0), (11, 1), (12, 0), (13, 0), (14, 0), (15, 0), (16, 0), (17, 1)]) (.sq (.drw [(0, 0), (1, 0), (2, 0), (3, 0), (4, 0), (5, 0), (6, 0), (7, 0), (8, 1), (9, 0), (10, 1)]) (.sq .reg (.sq .reg (.cd .reg .skip))))))))))))))))
theorem q89 : AllN 2 fun l => ∀ m t s d k, R.denF i89 a89 (bodyOf Tryz.f89) Tryz.f89.results.toList e89.ps e89.rs l ⟨m, t, s, d⟩ k = wrapF 2 0 sf89 l ⟨m, t, s, d⟩ k := by
  intro x0 x1 m t s d k
  kernel_rfl
theorem ok89 : FunOK Tryz.prog 89 e89 := fun_ok facts mixed (I := i89) (FnsOK.cons ok105 (FnsOK.cons ok107 (FnsOK.cons ok108 (FnsOK.cons ok117 (FnsOK.cons ok118 (FnsOK.cons ok119 (FnsOK.cons ok120 (FnsOK.cons ok121 (FnsOK.cons ok122 (FnsOK.cons ok123 (FnsOK.cons ok124 FnsOK.nil))))))))))) Tryz.func89 (by kernel_rfl) (by kernel_rfl) (by kernel_rfl) (an := a89) (by kernel_rfl) (by kernel_rfl) q89
def sf90 : FT 1 1 := fun a1 m t s d k =>
okB (ifB (beq a1 0) false true) <|
force (land (shiftRight m a1) 18446744073709551615) fun v2 =>
sf121 a1 v2 m t s d fun r3 r4 m5 t5 s5 d5 =>
force r3 fun v6 =>
k r4 m5 t5 s5 d5
def e90 : FunE := ⟨[.ptr (lay 104) false false], [.one .bool], wrapF 1 1 sf90⟩
def i90 : FI := ⟨16, [3], [2, 4, 5], [(121, e121)], []⟩
def a90 : An := (.sq .reg (.sq .reg (.sq .reg .ret)))
theorem q90 : AllN 1 fun l => ∀ m t s d k, R.denF i90 a90 (bodyOf Tryz.f90) Tryz.f90.results.toList e90.ps e90.rs l ⟨m, t, s, d⟩ k = wrapF 1 1 sf90 l ⟨m, t, s, d⟩ k := by
  intro x0 m t s d k
  kernel_rfl
theorem ok90 : FunOK Tryz.prog 90 e90 := fun_ok facts mixed (I := i90) (FnsOK.cons ok121 FnsOK.nil) Tryz.func90 (by kernel_rfl) (by kernel_rfl) (by kernel_rfl) (an := a90) (by kernel_rfl) (by kernel_rfl) q90
def sf178 : FT 2 1 := fun a1 a2 m t s d k =>
join (fun (m3 t3 s3 d3 : Nat) =>
k 18446744073709551615 m3 t3 s3 d3) fun J4 =>
force (land (shiftRight a1 28) 131071) fun v5 =>
loopN 6 (fun (_ _ _ _ _ : Nat) => false) (fun L8 (p6 m7 t7 s7 d7 : Nat) =>
ifB (ble (succ (xor p6 9223372036854775808)) (xor v5 9223372036854775808)) (
okB (ble (succ p6) (land (shiftRight a1 28) 131071)) <|
okB (beq (land (shiftRight d7 (shiftRight (add (land a1 268435455) (mul p6 64)) 6)) 1) 0) <|
ifB (ifB (beq a2 1) (beq (land (shiftRight m7 (add (land a1 268435455) (mul p6 64))) 18446744073709551615) 1) (ifB (beq (land (shiftRight m7 (add (land a1 268435455) (mul p6 64))) 18446744073709551615) 1) false true)) (
false) <|
force (mod (add p6 1) 18446744073709551616) fun v9 =>
L8 v9 m7 t7 s7 d7) <|
J4 m7 t7 s7 d7) 0 m t s d
def e178 : FunE := ⟨[.sli [.bool], .one .bool], [.one (.int .i64)], wrapF 2 1 sf178⟩
def i178 : FI := ⟨19, [], [4, 5, 7, 8, 9, 16], [], []⟩
def a178 : An := (.sq .reg (.sj [] (.sq .reg (.bl (.lp [(8, .sh (.one (.int .i64)))] 6 (.sq .reg (.sq (.cd .skip .ex) (.sq (.bl (.sq .reg (.sq .reg (.cd .dead .skip)))) .reg)))))) (.sq .reg .ret)))
theorem q178 : AllN 2 fun l => ∀ m t s d k, R.denF i178 a178 (bodyOf Tryz.f178) Tryz.f178.results.toList e178.ps e178.rs l ⟨m, t, s, d⟩ k = wrapF 2 1 sf178 l ⟨m, t, s, d⟩ k := by
  intro x0 x1 m t s d k
  kernel_rfl
theorem ok178 : FunOK Tryz.prog 178 e178 := fun_ok facts mixed (I := i178) FnsOK.nil Tryz.func178 (by kernel_rfl) (by kernel_rfl) (by kernel_rfl) (an := a178) (by kernel_rfl) (by kernel_rfl) q178
def sf125 : FT 2 1 := fun a1 a2 m t s d k =>
sf178 a1 a2 m t s d fun r3 m4 t4 s4 d4 =>
force (ifB (ifB (ble (succ (xor r3 9223372036854775808)) 9223372036854775808) false true) 1 0) fun v5 =>
k v5 m4 t4 s4 d4
def e125 : FunE := ⟨[.sli [.bool], .one .bool], [.one .bool], wrapF 2 1 sf125⟩
def i125 : FI := ⟨9, [], [4], [(178, e178)], []⟩
def a125 : An := (.sq .reg (.sq .reg .ret))
theorem q125 : AllN 2 fun l => ∀ m t s d k, R.denF i125 a125 (bodyOf Tryz.f125) Tryz.f125.results.toList e125.ps e125.rs l ⟨m, t, s, d⟩ k = wrapF 2 1 sf125 l ⟨m, t, s, d⟩ k := by
  intro x0 x1 m t s d k
  kernel_rfl
theorem ok125 : FunOK Tryz.prog 125 e125 := fun_ok facts mixed (I := i125) (FnsOK.cons ok178 FnsOK.nil) Tryz.func125 (by kernel_rfl) (by kernel_rfl) (by kernel_rfl) (an := a125) (by kernel_rfl) (by kernel_rfl) q125
def sf91 : FT 1 1 := fun a1 m t s d k =>
okB (ifB (beq a1 0) false true) <|
okB (ifB (beq a1 0) false true) <|
ifB (ble (succ (xor (land (shiftRight (land (shiftRight m (add a1 8576)) 18446744073709551615) 28) 131071) 9223372036854775808)) (xor (land (shiftRight m a1) 18446744073709551615) 9223372036854775808)) (
k 0 m t s d) <|
okB (ifB (beq a1 0) false true) <|
force (land (shiftRight m (add a1 8576)) 18446744073709551615) fun v2 =>
force (ifB true 1 0) fun v3 =>
sf125 v2 v3 m t s d fun r4 m5 t5 s5 d5 =>
ifB (beq r4 1) (
false) <|
k 2 m5 t5 s5 d5
def e91 : FunE := ⟨[.ptr (lay 183) false false], [.one (.int .i64)], wrapF 1 1 sf91⟩
def i91 : FI := ⟨20, [], [2, 3, 14], [(125, e125)], []⟩
def a91 : An := (.sq .reg (.sq (.bl (.sq (.drw [(0, 0), (1, 0), (2, 0), (3, 0), (4, 0), (5, 0), (6, 0), (7, 0), (8, 0), (9, 0), (10, 0)]) (.cd (.sq .reg .ret) (.sq .reg (.cd .dead .skip))))) (.sq .reg .ret)))
theorem q91 : AllN 1 fun l => ∀ m t s d k, R.denF i91 a91 (bodyOf Tryz.f91) Tryz.f91.results.toList e91.ps e91.rs l ⟨m, t, s, d⟩ k = wrapF 1 1 sf91 l ⟨m, t, s, d⟩ k := by
  intro x0 m t s d k
  kernel_rfl
theorem ok91 : FunOK Tryz.prog 91 e91 := fun_ok facts mixed (I := i91) (FnsOK.cons ok125 FnsOK.nil) Tryz.func91 (by kernel_rfl) (by kernel_rfl) (by kernel_rfl) (an := a91) (by kernel_rfl) (by kernel_rfl) q91
def sf126 : FT 2 1 := fun a1 a2 m t s d k =>
join (fun (p3 m4 t4 s4 d4 : Nat) =>
k p3 m4 t4 s4 d4) fun J5 =>
okB (ifB (beq a1 0) false true) <|
force (land (shiftRight m (add a1 128)) (mask 99)) fun v6 =>
loopN 37 (fun (_ _ _ _ _ _ : Nat) => false) (fun L10 (p7 p8 m9 t9 s9 d9 : Nat) =>
ifB (ble (succ (xor p8 9223372036854775808)) 9223372036854775841) (
join (fun (p11 m12 t12 s12 d12 : Nat) =>
force (mod (add p8 1) 18446744073709551616) fun v14 =>
L10 p11 v14 m12 t12 s12 d12) fun J13 =>
okB (ble (succ p8) 33) <|
force (land (shiftRight v6 (mul p8 192)) 6277101735386680763835789423207666416102355444464034512895) fun v15 =>
okB (ifB (ble 1 (land (shiftRight v15 64) 18446744073709551615)) (ble 1 (land (shiftRight v15 64) 18446744073709551615)) true) <|
join (fun (r16 m17 t17 s17 d17 : Nat) =>
okB (ifB (ifB (ble 1 (land (shiftRight v15 64) 18446744073709551615)) (ifB (ble (succ a2) (land (shiftRight v15 64) 18446744073709551615)) false true) false) (ifB (ble 1 (land (shiftRight v15 64) 18446744073709551615)) (ifB (ble (succ a2) (land (shiftRight v15 64) 18446744073709551615)) false true) false) true) <|
ifB (ifB (ifB (ble 1 (land (shiftRight v15 64) 18446744073709551615)) (ifB (ble (succ a2) (land (shiftRight v15 64) 18446744073709551615)) false true) false) (beq r16 1) false) (
force (land (shiftRight v15 0) 18446744073709551615) fun v19 =>
join (fun (r20 m21 t21 s21 d21 : Nat) =>
J13 r20 m21 t21 s21 d21) fun J22 =>
appR 1 p7 1 v19 m17 t17 s17 d17 J22) <|
J13 p7 m17 t17 s17 d17) fun J18 =>
ifB (ifB (ble 1 (land (shiftRight v15 64) 18446744073709551615)) (ifB (ble (succ a2) (land (shiftRight v15 64) 18446744073709551615)) false true) false) (
force (land (shiftRight v15 0) 18446744073709551615) fun v23 =>
sf169 a1 v23 m9 t9 s9 d9 fun r24 m25 t25 s25 d25 =>
J18 r24 m25 t25 s25 d25) <|
J18 0 m9 t9 s9 d9) <|
J5 p7 m9 t9 s9 d9) 0 0 m t s d
def e126 : FunE := ⟨[.ptr (lay 193) false false, .one (.int .u64)], [.sli ([.int .i64])], wrapF 2 1 sf126⟩
def i126 : FI := ⟨37, [7, 33], [4, 5, 7, 11, 12, 13, 18, 24, 29], [(169, e169)], []⟩
def a126 : An := (.sq .reg (.sq .reg (.sj [(5, .sh (.sli ([.int .i64])))] (.sq .reg (.bl (.lp [(5, .sh (.sli ([.int .i64]))), (12, .sh (.one (.int .i64)))] 37 (.sq .reg (.sq (.cd .skip .ex) (.sj [(5, .sh (.sli ([.int .i64])))] (.bl (.sq .reg (.sq .reg (.cd .reg .skip)))) .reg)))))) (.sq .reg .ret))))
theorem q126 : AllN 2 fun l => ∀ m t s d k, R.denF i126 a126 (bodyOf Tryz.f126) Tryz.f126.results.toList e126.ps e126.rs l ⟨m, t, s, d⟩ k = wrapF 2 1 sf126 l ⟨m, t, s, d⟩ k := by
  intro x0 x1 m t s d k
  kernel_rfl
theorem ok126 : FunOK Tryz.prog 126 e126 := fun_ok facts mixed (I := i126) (FnsOK.cons ok169 FnsOK.nil) Tryz.func126 (by kernel_rfl) (by kernel_rfl) (by kernel_rfl) (an := a126) (by kernel_rfl) (by kernel_rfl) q126
def sf315 : FT 4 0 := fun a1 a2 a3 a4 m t s d k =>
force (mod (add a2 1) 18446744073709551616) fun v5 =>
loopN 4 (fun (_ _ _ _ _ : Nat) => false) (fun L8 (p6 m7 t7 s7 d7 : Nat) =>
ifB (ble (succ (xor p6 9223372036854775808)) (xor a3 9223372036854775808)) (
false) <|
k m7 t7 s7 d7) v5 m t s d
def e315 : FunE := ⟨[.sli ([.int .i64]), .one (.int .i64), .one (.int .i64), .one .fn], [], wrapF 4 0 sf315⟩
def i315 : FI := ⟨53, [], [8, 9, 14, 21, 34], [], []⟩
def a315 : An := (.sq .reg (.bl (.lp [(8, .sh (.one (.int .i64)))] 4 (.sq (.sq .reg (.cd .dead .ex)) .dead))))
theorem q315 : AllN 4 fun l => ∀ m t s d k, R.denF i315 a315 (bodyOf Tryz.f315) Tryz.f315.results.toList e315.ps e315.rs l ⟨m, t, s, d⟩ k = wrapF 4 0 sf315 l ⟨m, t, s, d⟩ k := by
  intro x0 x1 x2 x3 m t s d k
  kernel_rfl
theorem ok315 : FunOK Tryz.prog 315 e315 := fun_ok facts mixed (I := i315) FnsOK.nil Tryz.func315 (by kernel_rfl) (by kernel_rfl) (by kernel_rfl) (an := a315) (by kernel_rfl) (by kernel_rfl) q315
def sf292 : FT 3 0 := fun a1 a2 a3 m t s d k =>
join (fun (p4 m5 t5 s5 d5 : Nat) =>
sf315 a1 p4 a2 a3 m5 t5 s5 d5 fun m7 t7 s7 d7 =>
loopN 4 (fun (_ _ _ _ _ : Nat) => false) (fun L10 (p8 m9 t9 s9 d9 : Nat) =>
ifB (ble (succ (xor p8 9223372036854775808)) (xor a2 9223372036854775808)) (
false) <|
k m9 t9 s9 d9) 20 m7 t7 s7 d7) fun J6 =>
loopN 4 (fun (_ _ _ _ _ _ : Nat) => false) (fun L14 (p11 p12 m13 t13 s13 d13 : Nat) =>
ifB (ifB (ble (succ (xor a2 9223372036854775808)) (xor p12 9223372036854775808)) false true) (
false) <|
J6 p11 m13 t13 s13 d13) 0 20 m t s d
def e292 : FunE := ⟨[.sli ([.int .i64]), .one (.int .i64), .one .fn], [], wrapF 3 0 sf292⟩
def i292 : FI := ⟨63, [], [6, 7, 8, 9, 13, 30, 35, 54], [(315, e315)], []⟩
def a292 : An := (.sq .reg (.sq .reg (.sj [(7, .sh (.one (.int .i64)))] (.bl (.lp [(7, .sh (.one (.int .i64))), (8, .sh (.one (.int .i64)))] 4 (.sq (.sq .reg (.cd .dead .ex)) .dead))) (.sq .reg (.bl (.lp [(6, .sh (.one (.int .i64)))] 4 (.sq (.sq .reg (.cd .dead .ex)) .dead)))))))
theorem q292 : AllN 3 fun l => ∀ m t s d k, R.denF i292 a292 (bodyOf Tryz.f292) Tryz.f292.results.toList e292.ps e292.rs l ⟨m, t, s, d⟩ k = wrapF 3 0 sf292 l ⟨m, t, s, d⟩ k := by
  intro x0 x1 x2 m t s d k
  kernel_rfl
theorem ok292 : FunOK Tryz.prog 292 e292 := fun_ok facts mixed (I := i292) (FnsOK.cons ok315 FnsOK.nil) Tryz.func292 (by kernel_rfl) (by kernel_rfl) (by kernel_rfl) (an := a292) (by kernel_rfl) (by kernel_rfl) q292
def sf246 : FT 2 0 := fun a1 a2 m t s d k =>
force (land (shiftRight a1 28) 131071) fun v3 =>
sf292 a1 v3 a2 m t s d fun m4 t4 s4 d4 =>
k m4 t4 s4 d4
def e246 : FunE := ⟨[.sli ([.int .i64]), .one .fn], [], wrapF 2 0 sf246⟩
def i246 : FI := ⟨9, [], [], [(292, e292)], []⟩
def a246 : An := .reg
theorem q246 : AllN 2 fun l => ∀ m t s d k, R.denF i246 a246 (bodyOf Tryz.f246) Tryz.f246.results.toList e246.ps e246.rs l ⟨m, t, s, d⟩ k = wrapF 2 0 sf246 l ⟨m, t, s, d⟩ k := by
  intro x0 x1 m t s d k
  kernel_rfl
theorem ok246 : FunOK Tryz.prog 246 e246 := fun_ok facts mixed (I := i246) (FnsOK.cons ok292 FnsOK.nil) Tryz.func246 (by kernel_rfl) (by kernel_rfl) (by kernel_rfl) (an := a246) (by kernel_rfl) (by kernel_rfl) q246
def sf180 : FT 3 1 := fun a1 a2 a3 m t s d k =>
force (shiftLeft t 6) fun v4 =>
force (add t 1) fun t5 =>
okB (ble (succ t5) 4194304) <|
force (xor m (xor (shiftLeft 0 (shiftLeft t 6)) (mod (add 0 t) 2305843009213693951))) fun m6 =>
force (shiftLeft t5 6) fun v7 =>
force (add t5 1) fun t8 =>
okB (ble (succ t8) 4194304) <|
force (xor m6 (xor (shiftLeft a2 (shiftLeft t5 6)) (mod (add a2 t5) 2305843009213693951))) fun m9 =>
join (fun (p10 m11 t11 s11 d11 : Nat) =>
okB (ifB (ifB (beq v4 0) false (ble (succ v4) 268435456)) (ifB (beq v7 0) false (ble (succ v7) 268435456)) false) <|
force (add (add 248 (shiftLeft (shiftRight v4 6) 10)) (shiftLeft (shiftRight v7 6) 32)) fun v13 =>
sf246 p10 v13 m11 t11 s11 d11 fun m14 t14 s14 d14 =>
okB (ifB (ble 0 (ifB (ble (succ (xor (ifB (ble (succ (xor a3 9223372036854775808)) (xor (land (shiftRight p10 28) 131071) 9223372036854775808)) a3 (land (shiftRight p10 28) 131071)) 9223372036854775808)) 9223372036854775808) 0 (ifB (ble (succ (xor a3 9223372036854775808)) (xor (land (shiftRight p10 28) 131071) 9223372036854775808)) a3 (land (shiftRight p10 28) 131071)))) (ble (ifB (ble (succ (xor (ifB (ble (succ (xor a3 9223372036854775808)) (xor (land (shiftRight p10 28) 131071) 9223372036854775808)) a3 (land (shiftRight p10 28) 131071)) 9223372036854775808)) 9223372036854775808) 0 (ifB (ble (succ (xor a3 9223372036854775808)) (xor (land (shiftRight p10 28) 131071) 9223372036854775808)) a3 (land (shiftRight p10 28) 131071))) (land (shiftRight p10 45) 131071)) false) <|
force (ifB (beq (land p10 268435455) 0) p10 (ifB (beq (add (sub (land (shiftRight p10 45) 131071) 0) (shiftRight p10 62)) 0) 9223372036854775808 (add (land p10 268435455) (shiftLeft (add (sub (ifB (ble (succ (xor (ifB (ble (succ (xor a3 9223372036854775808)) (xor (land (shiftRight p10 28) 131071) 9223372036854775808)) a3 (land (shiftRight p10 28) 131071)) 9223372036854775808)) 9223372036854775808) 0 (ifB (ble (succ (xor a3 9223372036854775808)) (xor (land (shiftRight p10 28) 131071) 9223372036854775808)) a3 (land (shiftRight p10 28) 131071))) 0) (shiftLeft (add (sub (land (shiftRight p10 45) 131071) 0) (shiftLeft (shiftRight p10 62) 17)) 17)) 28)))) fun v15 =>
k v15 m14 t14 s14 d14) fun J12 =>
force (land (shiftRight (land (shiftRight m9 v7) 18446744073709551615) 28) 131071) fun v16 =>
loopN 5 (fun (_ _ _ _ _ _ : Nat) => false) (fun L20 (p17 p18 m19 t19 s19 d19 : Nat) =>
ifB (ble (succ (xor p18 9223372036854775808)) (xor v16 9223372036854775808)) (
force p18 fun v21 =>
join (fun (r22 m23 t23 s23 d23 : Nat) =>
force (mod (add p18 1) 18446744073709551616) fun v25 =>
L20 r22 v25 m23 t23 s23 d23) fun J24 =>
appR 1 p17 1 v21 m19 t19 s19 d19 J24) <|
J12 p17 m19 t19 s19 d19) 0 0 m9 t8 s d
def e180 : FunE := ⟨[.one (.cst 0), .sli ([.cst 0]), .one (.int .i64)], [.sli ([.int .i64])], wrapF 3 1 sf180⟩
def i180 : FI := ⟨29, [16], [3, 4, 6, 7, 8, 10, 11, 12], [(246, e246)], []⟩
def a180 : An := (.sq .reg (.sq .reg (.sj [(7, .sh (.sli ([.int .i64])))] (.sq .reg (.bl (.lp [(7, .sh (.sli ([.int .i64]))), (11, .sh (.one (.int .i64)))] 5 (.sq .reg (.sq (.cd .skip .ex) (.sq (.bl (.sq .reg .reg)) .reg)))))) (.sq .reg (.sq .reg .ret)))))
theorem q180 : AllN 3 fun l => ∀ m t s d k, R.denF i180 a180 (bodyOf Tryz.f180) Tryz.f180.results.toList e180.ps e180.rs l ⟨m, t, s, d⟩ k = wrapF 3 1 sf180 l ⟨m, t, s, d⟩ k := by
  intro x0 x1 x2 m t s d k
  kernel_rfl
theorem ok180 : FunOK Tryz.prog 180 e180 := fun_ok facts mixed (I := i180) (FnsOK.cons ok246 FnsOK.nil) Tryz.func180 (by kernel_rfl) (by kernel_rfl) (by kernel_rfl) (an := a180) (by kernel_rfl) (by kernel_rfl) q180
def sf181 : FT 2 1 := fun a1 a2 m t s d k =>
join (fun (p3 m4 t4 s4 d4 : Nat) =>
k p3 m4 t4 s4 d4) fun J5 =>
okB (ifB (beq a1 0) false true) <|
force (land (shiftRight m (add a1 128)) (mask 99)) fun v6 =>
loopN 37 (fun (_ _ _ _ _ _ : Nat) => false) (fun L10 (p7 p8 m9 t9 s9 d9 : Nat) =>
ifB (ble (succ (xor p8 9223372036854775808)) 9223372036854775841) (
join (fun (p11 m12 t12 s12 d12 : Nat) =>
force (mod (add p8 1) 18446744073709551616) fun v14 =>
L10 p11 v14 m12 t12 s12 d12) fun J13 =>
okB (ble (succ p8) 33) <|
force (land (shiftRight v6 (mul p8 192)) 6277101735386680763835789423207666416102355444464034512895) fun v15 =>
ifB (ble (succ a2) (land (shiftRight v15 64) 18446744073709551615)) (
force (land (shiftRight v15 0) 18446744073709551615) fun v16 =>
join (fun (r17 m18 t18 s18 d18 : Nat) =>
J13 r17 m18 t18 s18 d18) fun J19 =>
appR 1 p7 1 v16 m9 t9 s9 d9 J19) <|
J13 p7 m9 t9 s9 d9) <|
J5 p7 m9 t9 s9 d9) 0 0 m t s d
def e181 : FunE := ⟨[.ptr (lay 193) false false, .one (.int .u64)], [.sli ([.int .i64])], wrapF 2 1 sf181⟩
def i181 : FI := ⟨26, [7, 22], [4, 5, 7, 11, 12, 13, 18], [], []⟩
def a181 : An := (.sq .reg (.sq .reg (.sj [(5, .sh (.sli ([.int .i64])))] (.sq .reg (.bl (.lp [(5, .sh (.sli ([.int .i64]))), (12, .sh (.one (.int .i64)))] 37 (.sq .reg (.sq (.cd .skip .ex) (.sj [(5, .sh (.sli ([.int .i64])))] (.bl (.sq .reg (.sq .reg (.cd .reg .skip)))) .reg)))))) (.sq .reg .ret))))
theorem q181 : AllN 2 fun l => ∀ m t s d k, R.denF i181 a181 (bodyOf Tryz.f181) Tryz.f181.results.toList e181.ps e181.rs l ⟨m, t, s, d⟩ k = wrapF 2 1 sf181 l ⟨m, t, s, d⟩ k := by
  intro x0 x1 m t s d k
  kernel_rfl
theorem ok181 : FunOK Tryz.prog 181 e181 := fun_ok facts mixed (I := i181) FnsOK.nil Tryz.func181 (by kernel_rfl) (by kernel_rfl) (by kernel_rfl) (an := a181) (by kernel_rfl) (by kernel_rfl) q181
def sf127 : FT 5 1 := fun a1 a2 a3 a4 a5 m t s d k =>
join (loopN 4 (fun (_ _ _ _ _ _ _ : Nat) => false) (fun L10 (p6 p7 p8 m9 t9 s9 d9 : Nat) =>
join (fun (p12 m13 t13 s13 d13 : Nat) =>
k p12 m13 t13 s13 d13) fun J14 =>
okB (ifB (beq a1 0) false true) <|
sf181 a1 a2 m9 t9 s9 d9 fun r15 m16 t16 s16 d16 =>
okB (beq (land (shiftRight m16 a1) 18446744073709551615) (land (shiftRight m9 a1) 18446744073709551615)) <|
force (mod (sub (add (land (shiftRight m9 a1) 18446744073709551615) 18446744073709551616) (land (shiftRight r15 28) 131071)) 18446744073709551616) fun v17 =>
sf180 0 p8 v17 m16 t16 s16 d16 fun r18 m19 t19 s19 d19 =>
force (land (shiftRight r18 28) 131071) fun v20 =>
loopN 5 (fun (_ _ _ _ _ _ : Nat) => false) (fun L24 (p21 p22 m23 t23 s23 d23 : Nat) =>
ifB (ble (succ (xor p22 9223372036854775808)) (xor v20 9223372036854775808)) (
okB (ble (succ p22) (land (shiftRight r18 28) 131071)) <|
okB (beq (land (shiftRight d23 (shiftRight (add (land r18 268435455) (mul p22 64)) 6)) 1) 0) <|
force (land (shiftRight m23 (add (land r18 268435455) (mul p22 64))) 18446744073709551615) fun v25 =>
okB (ble (succ v25) (land (shiftRight p6 28) 131071)) <|
okB (beq (land (shiftRight d23 (shiftRight (add (land p6 268435455) (mul v25 64)) 6)) 1) 0) <|
force (land (shiftRight m23 (add (land p6 268435455) (mul v25 64))) 18446744073709551615) fun v26 =>
okB (ifB (beq a1 0) false true) <|
okB (ble (succ v26) 33) <|
okB (ifB (beq a1 0) false true) <|
force (xor (land (shiftRight m23 (add (add a1 128) (mul v26 192))) 18446744073709551615) v26) fun v27 =>
force (xor m23 (xor (shiftLeft v27 (add (add a1 128) (mul v26 192))) (mod (add v27 (add (add a1 128) (mul v26 192))) 2305843009213693951))) fun m28 =>
okB (ble (succ v26) 33) <|
force (xor (land (shiftRight m28 (add (add (add a1 128) (mul v26 192)) 128)) 18446744073709551615) a2) fun v29 =>
force (xor m28 (xor (shiftLeft v29 (add (add (add a1 128) (mul v26 192)) 128)) (mod (add v29 (add (add (add a1 128) (mul v26 192)) 128)) 2305843009213693951))) fun m30 =>
force v26 fun v31 =>
join (fun (r32 m33 t33 s33 d33 : Nat) =>
force (mod (add p22 1) 18446744073709551616) fun v35 =>
L24 r32 v35 m33 t33 s33 d33) fun J34 =>
appR 1 p21 1 v31 m30 t23 s23 d23 J34) <|
J14 p21 m23 t23 s23 d23) p7 0 m19 t19 s19 d19)) fun J11 =>
join (loopN 4 (fun (_ _ _ _ _ _ _ _ : Nat) => false) (fun L41 (p36 p37 p38 p39 m40 t40 s40 d40 : Nat) =>
force (mod (add p39 1) 18446744073709551616) fun v43 =>
ifB (beq v43 (land (shiftRight a4 28) 131071)) (
J11 p36 p37 p38 m40 t40 s40 d40) <|
okB (ble (succ v43) (land (shiftRight a4 28) 131071)) <|
okB (beq (land (shiftRight d40 (shiftRight (add (land a4 268435455) (mul v43 64)) 6)) 1) 0) <|
force (land (shiftRight m40 (add (land a4 268435455) (mul v43 64))) 18446744073709551615) fun v44 =>
sf179 v44 m40 t40 s40 d40 fun r45 m46 t46 s46 d46 =>
okB (ifB (ifB (ifB (beq r45 1) false true) false true) (ifB (ble 0 v43) (ble v43 (land (shiftRight a4 45) 131071)) false) true) <|
join (fun (r47 m48 t48 s48 d48 : Nat) =>
okB (ifB (ifB (beq r45 1) false true) true (ifB (ifB (beq r45 1) false true) false true)) <|
okB (ifB (ifB (ifB (ifB (beq r45 1) false true) true (beq r47 1)) false true) (ifB (beq a1 0) false true) true) <|
okB (ifB (ifB (ifB (ifB (beq r45 1) false true) true (beq r47 1)) false true) (ble (succ v44) 33) true) <|
okB (ifB (ifB (ifB (beq r45 1) false true) true (beq r47 1)) true (ifB (ifB (ifB (beq r45 1) false true) true (beq r47 1)) false true)) <|
okB (ifB (ifB (ifB (ifB (ifB (beq r45 1) false true) true (beq r47 1)) true (ble (succ a2) (land (shiftRight m48 (add (add (add a1 128) (mul v44 192)) 64)) 18446744073709551615))) false true) (ifB (beq a1 0) false true) true) <|
okB (ifB (ifB (ifB (ifB (ifB (beq r45 1) false true) true (beq r47 1)) true (ble (succ a2) (land (shiftRight m48 (add (add (add a1 128) (mul v44 192)) 64)) 18446744073709551615))) false true) (ble (succ v44) 33) true) <|
okB (ifB (ifB (ifB (ifB (ifB (ifB (beq r45 1) false true) true (beq r47 1)) true (ble (succ a2) (land (shiftRight m48 (add (add (add a1 128) (mul v44 192)) 64)) 18446744073709551615))) false true) (ble 9223372036854775809 (xor (land (shiftRight m48 (add (add a1 128) (mul v44 192))) 18446744073709551615) 9223372036854775808)) false) (ifB (beq a1 0) false true) true) <|
okB (ifB (ifB (ifB (ifB (ifB (ifB (beq r45 1) false true) true (beq r47 1)) true (ble (succ a2) (land (shiftRight m48 (add (add (add a1 128) (mul v44 192)) 64)) 18446744073709551615))) false true) (ble 9223372036854775809 (xor (land (shiftRight m48 (add (add a1 128) (mul v44 192))) 18446744073709551615) 9223372036854775808)) false) (ble (succ v44) 33) true) <|
okB (ifB (ifB (ifB (ifB (ifB (ifB (beq r45 1) false true) true (beq r47 1)) true (ble (succ a2) (land (shiftRight m48 (add (add (add a1 128) (mul v44 192)) 64)) 18446744073709551615))) false true) (ble 9223372036854775809 (xor (land (shiftRight m48 (add (add a1 128) (mul v44 192))) 18446744073709551615) 9223372036854775808)) false) (ifB (beq a1 0) false true) true) <|
okB (ifB (ifB (ifB (ifB (ifB (beq r45 1) false true) true (beq r47 1)) true (ble (succ a2) (land (shiftRight m48 (add (add (add a1 128) (mul v44 192)) 64)) 18446744073709551615))) false true) (ifB (ble 9223372036854775809 (xor (land (shiftRight m48 (add (add a1 128) (mul v44 192))) 18446744073709551615) 9223372036854775808)) (ifB (ifB (ifB (ifB (ifB (beq r45 1) false true) true (beq r47 1)) true (ble (succ a2) (land (shiftRight m48 (add (add (add a1 128) (mul v44 192)) 64)) 18446744073709551615))) false true) (ble 9223372036854775809 (xor (land (shiftRight m48 (add (add a1 128) (mul v44 192))) 18446744073709551615) 9223372036854775808)) false) true) true) <|
okB (ifB (ifB (ifB (ifB (beq r45 1) false true) true (beq r47 1)) true (ble (succ a2) (land (shiftRight m48 (add (add (add a1 128) (mul v44 192)) 64)) 18446744073709551615))) true (ifB (ifB (ifB (ifB (beq r45 1) false true) true (beq r47 1)) true (ble (succ a2) (land (shiftRight m48 (add (add (add a1 128) (mul v44 192)) 64)) 18446744073709551615))) false true)) <|
ifB (ifB (ifB (ifB (ifB (beq r45 1) false true) true (beq r47 1)) true (ble (succ a2) (land (shiftRight m48 (add (add (add a1 128) (mul v44 192)) 64)) 18446744073709551615))) true (ifB (ble 9223372036854775809 (xor (land (shiftRight m48 (add (add a1 128) (mul v44 192))) 18446744073709551615) 9223372036854775808)) (ble (succ a2) (mod (add (land (shiftRight m48 (add (add (add a1 128) (mul v44 192)) 128)) 18446744073709551615) (land (shiftRight m48 (add a1 64)) 18446744073709551615)) 18446744073709551616)) false)) (
L41 p36 p37 p38 v43 m48 t48 s48 d48) <|
okB (ble (succ v43) (land (shiftRight a4 28) 131071)) <|
okB (beq (land (shiftRight d48 (shiftRight (add (land a4 268435455) (mul v43 64)) 6)) 1) 0) <|
okB (ble (succ v43) (land (shiftRight a5 28) 131071)) <|
okB (beq (land (shiftRight d48 (shiftRight (add (land a5 268435455) (mul v43 64)) 6)) 1) 0) <|
force (land (shiftRight m48 (add (land a4 268435455) (mul v43 64))) 18446744073709551615) fun v50 =>
okB (beq (land (shiftRight d48 (shiftRight (add (land a5 268435455) (mul v43 64)) 6)) 1) 0) <|
okB true <|
join (fun (r51 m52 t52 s52 d52 : Nat) =>
okB (beq (land (shiftRight d52 (shiftRight (add (land a5 268435455) (mul v43 64)) 6)) 1) 0) <|
okB true <|
force 0 fun v54 =>
okB (beq (land (shiftRight d52 (shiftRight (add (land a4 268435455) (mul v43 64)) 6)) 1) 0) <|
okB (beq (land (shiftRight m52 (add (land a4 268435455) (mul v43 64))) 18446744073709551615) (land (shiftRight m48 (add (land a4 268435455) (mul v43 64))) 18446744073709551615)) <|
join (fun (r55 m56 t56 s56 d56 : Nat) =>
L41 r51 p37 r55 v43 m56 t56 s56 d56) fun J57 =>
appR 1 p38 1 v54 m52 t52 s52 d52 J57) fun J53 =>
appR 1 p36 1 v50 m48 t48 s48 d48 J53) fun J49 =>
ifB (ifB (ifB (beq r45 1) false true) false true) (
force (ifB (beq (land a4 268435455) 0) a4 (ifB (beq (add (sub (land (shiftRight a4 45) 131071) 0) (shiftRight a4 62)) 0) 9223372036854775808 (add (land a4 268435455) (shiftLeft (add (sub v43 0) (shiftLeft (add (sub (land (shiftRight a4 45) 131071) 0) (shiftLeft (shiftRight a4 62) 17)) 17)) 28)))) fun v58 =>
sf77 v58 v44 m46 t46 s46 d46 fun r59 m60 t60 s60 d60 =>
J49 r59 m60 t60 s60 d60) <|
J49 0 m46 t46 s46 d46)) fun J42 =>
okB (ifB (ble 4611686018427387905 a2) true (ifB (ble 4611686018427387905 a2) false true)) <|
ifB (ifB (ble 4611686018427387905 a2) true (ifB (beq (land (shiftRight a4 28) 131071) (land (shiftRight a5 28) 131071)) false true)) (
false) <|
force 0 fun v61 =>
ifB (beq v61 (land (shiftRight a4 28) 131071)) (
J11 0 0 0 m t s d) <|
okB (ble (succ v61) (land (shiftRight a4 28) 131071)) <|
okB (beq (land (shiftRight d (shiftRight (add (land a4 268435455) (mul v61 64)) 6)) 1) 0) <|
force (land (shiftRight m (add (land a4 268435455) (mul v61 64))) 18446744073709551615) fun v62 =>
sf179 v62 m t s d fun r63 m64 t64 s64 d64 =>
okB (ifB (ifB (ifB (beq r63 1) false true) false true) (ifB (ble 0 v61) (ble v61 (land (shiftRight a4 45) 131071)) false) true) <|
join (fun (r65 m66 t66 s66 d66 : Nat) =>
okB (ifB (ifB (beq r63 1) false true) true (ifB (ifB (beq r63 1) false true) false true)) <|
okB (ifB (ifB (ifB (ifB (beq r63 1) false true) true (beq r65 1)) false true) (ifB (beq a1 0) false true) true) <|
okB (ifB (ifB (ifB (ifB (beq r63 1) false true) true (beq r65 1)) false true) (ble (succ v62) 33) true) <|
okB (ifB (ifB (ifB (beq r63 1) false true) true (beq r65 1)) true (ifB (ifB (ifB (beq r63 1) false true) true (beq r65 1)) false true)) <|
okB (ifB (ifB (ifB (ifB (ifB (beq r63 1) false true) true (beq r65 1)) true (ble (succ a2) (land (shiftRight m66 (add (add (add a1 128) (mul v62 192)) 64)) 18446744073709551615))) false true) (ifB (beq a1 0) false true) true) <|
okB (ifB (ifB (ifB (ifB (ifB (beq r63 1) false true) true (beq r65 1)) true (ble (succ a2) (land (shiftRight m66 (add (add (add a1 128) (mul v62 192)) 64)) 18446744073709551615))) false true) (ble (succ v62) 33) true) <|
okB (ifB (ifB (ifB (ifB (ifB (ifB (beq r63 1) false true) true (beq r65 1)) true (ble (succ a2) (land (shiftRight m66 (add (add (add a1 128) (mul v62 192)) 64)) 18446744073709551615))) false true) (ble 9223372036854775809 (xor (land (shiftRight m66 (add (add a1 128) (mul v62 192))) 18446744073709551615) 9223372036854775808)) false) (ifB (beq a1 0) false true) true) <|
okB (ifB (ifB (ifB (ifB (ifB (ifB (beq r63 1) false true) true (beq r65 1)) true (ble (succ a2) (land (shiftRight m66 (add (add (add a1 128) (mul v62 192)) 64)) 18446744073709551615))) false true) (ble 9223372036854775809 (xor (land (shiftRight m66 (add (add a1 128) (mul v62 192))) 18446744073709551615) 9223372036854775808)) false) (ble (succ v62) 33) true) <|
okB (ifB (ifB (ifB (ifB (ifB (ifB (beq r63 1) false true) true (beq r65 1)) true (ble (succ a2) (land (shiftRight m66 (add (add (add a1 128) (mul v62 192)) 64)) 18446744073709551615))) false true) (ble 9223372036854775809 (xor (land (shiftRight m66 (add (add a1 128) (mul v62 192))) 18446744073709551615) 9223372036854775808)) false) (ifB (beq a1 0) false true) true) <|
okB (ifB (ifB (ifB (ifB (ifB (beq r63 1) false true) true (beq r65 1)) true (ble (succ a2) (land (shiftRight m66 (add (add (add a1 128) (mul v62 192)) 64)) 18446744073709551615))) false true) (ifB (ble 9223372036854775809 (xor (land (shiftRight m66 (add (add a1 128) (mul v62 192))) 18446744073709551615) 9223372036854775808)) (ifB (ifB (ifB (ifB (ifB (beq r63 1) false true) true (beq r65 1)) true (ble (succ a2) (land (shiftRight m66 (add (add (add a1 128) (mul v62 192)) 64)) 18446744073709551615))) false true) (ble 9223372036854775809 (xor (land (shiftRight m66 (add (add a1 128) (mul v62 192))) 18446744073709551615) 9223372036854775808)) false) true) true) <|
okB (ifB (ifB (ifB (ifB (beq r63 1) false true) true (beq r65 1)) true (ble (succ a2) (land (shiftRight m66 (add (add (add a1 128) (mul v62 192)) 64)) 18446744073709551615))) true (ifB (ifB (ifB (ifB (beq r63 1) false true) true (beq r65 1)) true (ble (succ a2) (land (shiftRight m66 (add (add (add a1 128) (mul v62 192)) 64)) 18446744073709551615))) false true)) <|
ifB (ifB (ifB (ifB (ifB (beq r63 1) false true) true (beq r65 1)) true (ble (succ a2) (land (shiftRight m66 (add (add (add a1 128) (mul v62 192)) 64)) 18446744073709551615))) true (ifB (ble 9223372036854775809 (xor (land (shiftRight m66 (add (add a1 128) (mul v62 192))) 18446744073709551615) 9223372036854775808)) (ble (succ a2) (mod (add (land (shiftRight m66 (add (add (add a1 128) (mul v62 192)) 128)) 18446744073709551615) (land (shiftRight m66 (add a1 64)) 18446744073709551615)) 18446744073709551616)) false)) (
J42 0 0 0 v61 m66 t66 s66 d66) <|
okB (ble (succ v61) (land (shiftRight a4 28) 131071)) <|
okB (beq (land (shiftRight d66 (shiftRight (add (land a4 268435455) (mul v61 64)) 6)) 1) 0) <|
okB (ble (succ v61) (land (shiftRight a5 28) 131071)) <|
okB (beq (land (shiftRight d66 (shiftRight (add (land a5 268435455) (mul v61 64)) 6)) 1) 0) <|
force (land (shiftRight m66 (add (land a4 268435455) (mul v61 64))) 18446744073709551615) fun v68 =>
okB (beq (land (shiftRight d66 (shiftRight (add (land a5 268435455) (mul v61 64)) 6)) 1) 0) <|
okB true <|
join (fun (r69 m70 t70 s70 d70 : Nat) =>
okB (beq (land (shiftRight d70 (shiftRight (add (land a5 268435455) (mul v61 64)) 6)) 1) 0) <|
okB true <|
force 0 fun v72 =>
okB (beq (land (shiftRight d70 (shiftRight (add (land a4 268435455) (mul v61 64)) 6)) 1) 0) <|
okB (beq (land (shiftRight m70 (add (land a4 268435455) (mul v61 64))) 18446744073709551615) (land (shiftRight m66 (add (land a4 268435455) (mul v61 64))) 18446744073709551615)) <|
join (fun (r73 m74 t74 s74 d74 : Nat) =>
J42 r69 0 r73 v61 m74 t74 s74 d74) fun J75 =>
appR 1 0 1 v72 m70 t70 s70 d70 J75) fun J71 =>
appR 1 0 1 v68 m66 t66 s66 d66 J71) fun J67 =>
ifB (ifB (ifB (beq r63 1) false true) false true) (
force (ifB (beq (land a4 268435455) 0) a4 (ifB (beq (add (sub (land (shiftRight a4 45) 131071) 0) (shiftRight a4 62)) 0) 9223372036854775808 (add (land a4 268435455) (shiftLeft (add (sub v61 0) (shiftLeft (add (sub (land (shiftRight a4 45) 131071) 0) (shiftLeft (shiftRight a4 62) 17)) 17)) 28)))) fun v76 =>
sf77 v76 v62 m64 t64 s64 d64 fun r77 m78 t78 s78 d78 =>
J67 r77 m78 t78 s78 d78) <|
J67 0 m64 t64 s64 d64
def e127 : FunE := ⟨[.ptr (lay 193) false false, .one (.int .u64), .one (.cst 0), .sli ([.int .i64]), .sli ([.cst 0])], [.sli ([.int .i64])], wrapF 5 1 sf127⟩
def i127 : FI := ⟨140, [90, 97, 136], [10, 11, 12, 13, 14, 15, 17, 18, 21, 27, 33, 41, 48, 59, 68, 84, 110, 111, 112, 113], [(77, e77), (179, e179), (180, e180), (181, e181)], []⟩
def a127 : An := (.sq .reg (.sc (.lb 0 [(11, .sh (.sli ([.int .i64]))), (12, .sh (.sli ([.int .i64]))), (13, .sh (.sli ([.cst 0])))] 4 (.sq .skip (.sj [(12, .sh (.sli ([.int .i64])))] (.sq (.drw [(0, 0), (1, 0), (2, 0), (3, 0), (4, 0), (5, 0), (6, 0), (7, 0), (13, 0), (8, 1), (9, 0), (10, 0), (11, 1), (12, 0)]) (.bl (.lp [(12, .sh (.sli ([.int .i64]))), (112, .sh (.one (.int .i64)))] 5 (.sq .reg (.sq (.cd .skip .ex) (.sq (.bl (.sq .reg (.sq .reg (.sq (.drw [(0, 0), (1, 0), (2, 0), (3, 0), (4, 0), (5, 0), (6, 0), (7, 0), (8, 0), (9, 0), (11, 0), (12, 0), (10, 1), (13, 0), (14, 0), (15, 1)]) .reg)))) .reg)))))) (.sq .reg .ret))) (.lb 1 [(11, .sh (.sli ([.int .i64]))), (12, .sh (.sli ([.int .i64]))), (13, .sh (.sli ([.cst 0]))), (14, .sh (.one (.int .i64)))] 4 (.sq .skip (.sq (.sq .reg (.sq .reg (.cd .go .skip))) (.sq (.sq .reg (.sq (.drw [(0, 0), (1, 1), (2, 0), (3, 0), (4, 0), (5, 0), (6, 0), (7, 0), (8, 1), (9, 0), (10, 0), (11, 0), (12, 0), (13, 0), (14, 0), (15, 0), (16, 0), (17, 0), (18, 0), (19, 0), (20, 0), (21, 0), (22, 0), (23, 0), (24, 0), (25, 0), (26, 0), (27, 0), (28, 0), (29, 0), (30, 0), (31, 0), (32, 0), (33, 0), (34, 0), (35, 0), (36, 0), (37, 0), (38, 0), (39, 0), (40, 0), (41, 0), (42, 0), (43, 0), (44, 0), (45, 0), (46, 0)]) (.cd .go .skip))) (.sq (.drw [(0, 0), (1, 0), (2, 0), (3, 0), (4, 0), (7, 0), (8, 0), (9, 0), (10, 0), (11, 0), (5, 2), (6, 1), (12, 2), (13, 1), (14, 1), (15, 1)]) (.sq .go .dead))))) (.sq .reg (.sq .reg (.sq .reg (.sq (.sq .reg (.cd .dead .skip)) (.sq .skip (.sq (.sq .reg (.sq .reg (.cd .go .skip))) (.sq (.sq .reg (.sq (.drw [(0, 0), (1, 1), (2, 0), (3, 0), (4, 0), (5, 0), (6, 0), (7, 0), (8, 1), (9, 0), (10, 0), (11, 0), (12, 0), (13, 0), (14, 0), (15, 0), (16, 0), (17, 0), (18, 0), (19, 0), (20, 0), (21, 0), (22, 0), (23, 0), (24, 0), (25, 0), (26, 0), (27, 0), (28, 0), (29, 0), (30, 0), (31, 0), (32, 0), (33, 0), (34, 0), (35, 0), (36, 0), (37, 0), (38, 0), (39, 0), (40, 0), (41, 0), (42, 0), (43, 0), (44, 0), (45, 0), (46, 0)]) (.cd .go .skip))) (.sq (.drw [(0, 0), (1, 0), (2, 0), (3, 0), (4, 0), (7, 0), (8, 0), (9, 0), (10, 0), (11, 0), (5, 2), (6, 1), (12, 2), (13, 1), (14, 1), (15, 1)]) (.sq .go .dead)))))))))))))
theorem q127 : AllN 5 fun l => ∀ m t s d k, R.denF i127 a127 (bodyOf Tryz.f127) Tryz.f127.results.toList e127.ps e127.rs l ⟨m, t, s, d⟩ k = wrapF 5 1 sf127 l ⟨m, t, s, d⟩ k := by
  intro x0 x1 x2 x3 x4 m t s d k
  kernel_rfl
theorem ok127 : FunOK Tryz.prog 127 e127 := fun_ok facts mixed (I := i127) (FnsOK.cons ok77 (FnsOK.cons ok179 (FnsOK.cons ok180 (FnsOK.cons ok181 FnsOK.nil)))) Tryz.func127 (by kernel_rfl) (by kernel_rfl) (by kernel_rfl) (an := a127) (by kernel_rfl) (by kernel_rfl) q127
def sf128 : FT 2 1 := fun a1 a2 m t s d k =>
okB (ifB (beq a1 0) false true) <|
force (land (shiftRight m (add a1 1792)) 18446744073709551615) fun v3 =>
sf181 v3 a2 m t s d fun r4 m5 t5 s5 d5 =>
k r4 m5 t5 s5 d5
def e128 : FunE := ⟨[.ptr (lay 104) false false, .one (.int .u64)], [.sli ([.int .i64])], wrapF 2 1 sf128⟩
def i128 : FI := ⟨11, [], [4], [(181, e181)], []⟩
def a128 : An := (.sq .reg (.sq .reg .ret))
theorem q128 : AllN 2 fun l => ∀ m t s d k, R.denF i128 a128 (bodyOf Tryz.f128) Tryz.f128.results.toList e128.ps e128.rs l ⟨m, t, s, d⟩ k = wrapF 2 1 sf128 l ⟨m, t, s, d⟩ k := by
  intro x0 x1 m t s d k
  kernel_rfl
theorem ok128 : FunOK Tryz.prog 128 e128 := fun_ok facts mixed (I := i128) (FnsOK.cons ok181 FnsOK.nil) Tryz.func128 (by kernel_rfl) (by kernel_rfl) (by kernel_rfl) (an := a128) (by kernel_rfl) (by kernel_rfl) q128
def sf92 : FT 3 0 := fun a1 a2 a3 m t s d k =>
okB (ifB (beq a1 0) false true) <|
force (land (shiftRight m (add a1 1792)) 18446744073709551615) fun v4 =>
sf126 v4 a2 m t s d fun r5 m6 t6 s6 d6 =>
join (fun (p7 p8 m9 t9 s9 d9 : Nat) =>
join (fun (m11 t11 s11 d11 : Nat) =>
sf128 a1 a2 m11 t11 s11 d11 fun r13 m14 t14 s14 d14 =>
force (land (shiftRight r13 28) 131071) fun v15 =>
loopN 5 (fun (_ _ _ _ _ : Nat) => false) (fun L18 (p16 m17 t17 s17 d17 : Nat) =>
ifB (ble (succ (xor p16 9223372036854775808)) (xor v15 9223372036854775808)) (
join (fun (m19 t19 s19 d19 : Nat) =>
force (mod (add p16 1) 18446744073709551616) fun v21 =>
L18 v21 m19 t19 s19 d19) fun J20 =>
okB (ble (succ p16) (land (shiftRight r13 28) 131071)) <|
okB (beq (land (shiftRight d17 (shiftRight (add (land r13 268435455) (mul p16 64)) 6)) 1) 0) <|
force (land (shiftRight m17 (add (land r13 268435455) (mul p16 64))) 18446744073709551615) fun v22 =>
sf121 a1 v22 m17 t17 s17 d17 fun r23 r24 m25 t25 s25 d25 =>
force r23 fun v26 =>
okB (ifB (beq r24 1) (beq r24 1) true) <|
ifB (ifB (beq r24 1) (beq a3 1) false) (
force (land (shiftRight v26 64) 340282366920938463463374607431768211455) fun v27 =>
force 12 fun v28 =>
sf105 a1 v27 v28 m25 t25 s25 d25 fun m29 t29 s29 d29 =>
J20 m29 t29 s29 d29) <|
J20 m25 t25 s25 d25) <|
k m17 t17 s17 d17) 0 m14 t14 s14 d14) fun J12 =>
okB (ifB (beq a1 0) false true) <|
okB (ifB (beq a1 0) false true) <|
force (land (shiftRight m9 (add a1 1792)) 18446744073709551615) fun v30 =>
sf127 v30 a2 0 p7 p8 m9 t9 s9 d9 fun r31 m32 t32 s32 d32 =>
force (land (shiftRight r31 28) 131071) fun v33 =>
loopN 5 (fun (_ _ _ _ _ : Nat) => false) (fun L36 (p34 m35 t35 s35 d35 : Nat) =>
ifB (ble (succ (xor p34 9223372036854775808)) (xor v33 9223372036854775808)) (
okB (ble (succ p34) (land (shiftRight r31 28) 131071)) <|
okB (beq (land (shiftRight d35 (shiftRight (add (land r31 268435455) (mul p34 64)) 6)) 1) 0) <|
force (land (shiftRight m35 (add (land r31 268435455) (mul p34 64))) 18446744073709551615) fun v37 =>
sf121 a1 v37 m35 t35 s35 d35 fun r38 r39 m40 t40 s40 d40 =>
force r38 fun v41 =>
force (land (shiftRight v41 64) 340282366920938463463374607431768211455) fun v42 =>
force (xor 10 (shiftLeft (ifB true 1 0) 448)) fun v43 =>
sf105 a1 v42 v43 m40 t40 s40 d40 fun m44 t44 s44 d44 =>
force (mod (add p34 1) 18446744073709551616) fun v45 =>
L36 v45 m44 t44 s44 d44) <|
J12 m35 t35 s35 d35) 0 m32 t32 s32 d32) fun J10 =>
okB (ifB (beq a1 0) false true) <|
force (land (shiftRight m6 (add a1 384)) 18446744073709551615) fun v46 =>
force (land (shiftRight v46 28) 131071) fun v47 =>
loopN 5 (fun (_ _ _ _ _ _ _ : Nat) => false) (fun L52 (p48 p49 p50 m51 t51 s51 d51 : Nat) =>
ifB (ble (succ (xor p50 9223372036854775808)) (xor v47 9223372036854775808)) (
okB (ble (succ p50) (land (shiftRight v46 28) 131071)) <|
okB (beq (land (shiftRight d51 (shiftRight (add (land v46 268435455) (mul p50 256)) 6)) 15) 0) <|
force (land (shiftRight m51 (add (land v46 268435455) (mul p50 256))) (mask 4)) fun v53 =>
okB (ifB (beq a1 0) false true) <|
force (land (shiftRight m51 (add a1 960)) 18446744073709551615) fun v54 =>
force (land (shiftRight v53 0) 18446744073709551615) fun v55 =>
sf14 v54 v55 m51 t51 s51 d51 fun r56 r57 m58 t58 s58 d58 =>
okB (beq (land (shiftRight v53 0) 18446744073709551615) (land (shiftRight v53 0) 18446744073709551615)) <|
okB (beq (land (shiftRight m58 (add a1 960)) 18446744073709551615) (land (shiftRight m51 (add a1 960)) 18446744073709551615)) <|
force r56 fun v59 =>
join (fun (r60 m61 t61 s61 d61 : Nat) =>
okB (ifB (beq r57 1) (beq r57 1) true) <|
okB (ifB (ifB (beq r57 1) (beq r60 1) false) (ifB (beq a1 0) false true) true) <|
okB (ifB (ifB (beq r57 1) (beq r60 1) false) (ifB (beq r57 1) (beq r60 1) false) true) <|
ifB (ifB (ifB (beq r57 1) (beq r60 1) false) (ifB (beq (land (shiftRight v53 0) 18446744073709551615) (land (shiftRight m61 a1) 18446744073709551615)) false true) false) (
force (land (shiftRight v53 0) 18446744073709551615) fun v63 =>
okB true <|
join (fun (r64 m65 t65 s65 d65 : Nat) =>
okB true <|
force 0 fun v67 =>
okB (beq (land (shiftRight v53 0) 18446744073709551615) (land (shiftRight v53 0) 18446744073709551615)) <|
join (fun (r68 m69 t69 s69 d69 : Nat) =>
force (mod (add p50 1) 18446744073709551616) fun v71 =>
L52 r64 r68 v71 m69 t69 s69 d69) fun J70 =>
appR 1 p49 1 v67 m65 t65 s65 d65 J70) fun J66 =>
appR 1 p48 1 v63 m61 t61 s61 d61 J66) <|
false) fun J62 =>
ifB (beq r57 1) (
force v59 fun v72 =>
sf16 v72 m58 t58 s58 d58 fun r73 m74 t74 s74 d74 =>
J62 r73 m74 t74 s74 d74) <|
J62 0 m58 t58 s58 d58) <|
J10 p48 p49 m51 t51 s51 d51) 0 0 0 m6 t6 s6 d6
def e92 : FunE := ⟨[.ptr (lay 104) false false, .one (.int .u64), .one .bool], [], wrapF 3 0 sf92⟩
def i92 : FI := ⟨126, [9, 10, 14, 18, 64, 69], [6, 7, 9, 10, 11, 13, 14, 17, 18, 19, 30, 31, 32, 33, 36, 47, 51, 60, 84, 85, 86, 87, 90, 104, 105, 106, 107, 110, 117, 119], [(14, e14), (16, e16), (105, e105), (121, e121), (126, e126), (127, e127), (128, e128)], []⟩
def a92 : An := (.sq .reg (.sq .reg (.sq .reg (.sj [(6, .sh (.sli ([.int .i64]))), (7, .sh (.sli ([.cst 0])))] (.sq .reg (.bl (.lp [(6, .sh (.sli ([.int .i64]))), (7, .sh (.sli ([.cst 0]))), (32, .sh (.one (.int .i64)))] 5 (.sq .reg (.sq (.cd .skip .ex) (.sq (.bl (.sq .reg (.sq (.drw [(0, 0), (1, 0), (2, 0), (3, 0), (4, 0), (5, 0), (6, 1), (7, 0), (8, 0), (9, 0), (10, 2), (11, 1), (12, 0)]) (.sq (.drw [(0, 0), (1, 0), (2, 0), (3, 1), (4, 0), (5, 0), (6, 0), (7, 0), (8, 0), (9, 0), (10, 0), (11, 0), (12, 0), (13, 0), (14, 0)]) (.cd (.drw [(0, 0), (1, 0), (2, 0), (5, 0), (6, 0), (7, 0), (3, 2), (4, 1), (8, 2), (9, 1), (10, 1), (11, 1)]) .dead))))) .reg)))))) (.sj [] (.sq (.drw [(0, 0), (1, 0), (2, 0), (3, 0), (4, 0), (5, 0), (6, 0), (7, 0), (8, 0), (9, 0), (10, 0), (11, 0), (14, 0), (12, 1), (13, 0)]) (.bl (.lp [(86, .sh (.one (.int .i64)))] 5 (.sq .reg (.sq (.cd .skip .ex) (.sq (.bl (.sq .reg (.sq .reg .reg))) .reg)))))) (.sq .reg (.bl (.lp [(106, .sh (.one (.int .i64)))] 5 (.sq .reg (.sq (.cd .skip .ex) (.sj [] (.bl (.sq .reg (.sq .reg (.sq .reg (.cd .reg .skip))))) .reg)))))))))))
theorem q92 : AllN 3 fun l => ∀ m t s d k, R.denF i92 a92 (bodyOf Tryz.f92) Tryz.f92.results.toList e92.ps e92.rs l ⟨m, t, s, d⟩ k = wrapF 3 0 sf92 l ⟨m, t, s, d⟩ k := by
  intro x0 x1 x2 m t s d k
  kernel_rfl
theorem ok92 : FunOK Tryz.prog 92 e92 := fun_ok facts mixed (I := i92) (FnsOK.cons ok14 (FnsOK.cons ok16 (FnsOK.cons ok105 (FnsOK.cons ok121 (FnsOK.cons ok126 (FnsOK.cons ok127 (FnsOK.cons ok128 FnsOK.nil))))))) Tryz.func92 (by kernel_rfl) (by kernel_rfl) (by kernel_rfl) (an := a92) (by kernel_rfl) (by kernel_rfl) q92
def sf182 : FT 3 1 := fun a1 a2 a3 m t s d k =>
join (loopN 4 (fun (_ _ _ _ : Nat) => false) (fun L5 (m4 t4 s4 d4 : Nat) =>
okB (ifB (beq a2 0) false true) <|
okB (ifB (beq a2 0) false true) <|
okB (ifB (beq a1 0) false true) <|
okB (ifB (beq a2 0) false true) <|
force (xor (land (shiftRight m4 a2) (mask 7)) (xor (xor (xor (land (shiftRight m4 a2) 18446744073709551615) 18446744073709551616) (shiftLeft (land (shiftRight m4 (add a2 128)) 18446744073709551615) 128)) (shiftLeft (mod (add a3 (land (shiftRight m4 (add a1 192)) 18446744073709551615)) 18446744073709551616) 320))) fun v7 =>
force (xor m4 (xor (shiftLeft v7 a2) (mod (add v7 a2) 2305843009213693951))) fun m8 =>
k 0 m8 t4 s4 d4)) fun J6 =>
join (loopN 4 (fun (_ _ _ _ : Nat) => false) (fun L10 (m9 t9 s9 d9 : Nat) =>
okB (ifB (beq a1 0) false true) <|
okB (ifB (beq a2 0) false true) <|
force (xor (land (shiftRight m9 (add a2 320)) 18446744073709551615) (mod (add a3 (land (shiftRight m9 (add a1 128)) 18446744073709551615)) 18446744073709551616)) fun v12 =>
force (xor m9 (xor (shiftLeft v12 (add a2 320)) (mod (add v12 (add a2 320)) 2305843009213693951))) fun m13 =>
k 2 m13 t9 s9 d9)) fun J11 =>
join (loopN 4 (fun (_ _ _ _ : Nat) => false) (fun L15 (m14 t14 s14 d14 : Nat) =>
k 0 m14 t14 s14 d14)) fun J16 =>
join (fun (m17 t17 s17 d17 : Nat) =>
okB (ifB (beq a2 0) false true) <|
okB (ifB (beq a2 0) false true) <|
force (xor (land (shiftRight m17 (add a2 128)) 18446744073709551615) (mod (add (land (shiftRight m17 (add a2 128)) 18446744073709551615) 1) 18446744073709551616)) fun v19 =>
force (xor m17 (xor (shiftLeft v19 (add a2 128)) (mod (add v19 (add a2 128)) 2305843009213693951))) fun m20 =>
okB (ifB (beq a1 0) false true) <|
okB (ifB (beq a2 0) false true) <|
okB (ble (succ (mod (sub (add (land (shiftRight m20 (add a2 128)) 18446744073709551615) 18446744073709551616) 1) 18446744073709551616)) 64) <|
okB (ifB (beq a2 0) false true) <|
force (xor (land (shiftRight m20 (add a2 320)) 18446744073709551615) (mod (add a3 (mod (shiftLeft (land (shiftRight m20 (add a1 64)) 18446744073709551615) (mod (sub (add (land (shiftRight m20 (add a2 128)) 18446744073709551615) 18446744073709551616) 1) 18446744073709551616)) 18446744073709551616)) 18446744073709551616)) fun v21 =>
force (xor m20 (xor (shiftLeft v21 (add a2 320)) (mod (add v21 (add a2 320)) 2305843009213693951))) fun m22 =>
k 1 m22 t17 s17 d17) fun J18 =>
okB (ifB (beq a2 0) false true) <|
ifB (ble (succ a3) (land (shiftRight m (add a2 320)) 18446744073709551615)) (
J16 m t s d) <|
okB (ifB (beq a2 0) false true) <|
okB (ifB (beq (land (shiftRight m (add a2 64)) 18446744073709551615) 3) (ifB (beq a2 0) false true) true) <|
okB (ifB (beq (land (shiftRight m (add a2 64)) 18446744073709551615) 3) (beq (land (shiftRight m (add a2 64)) 18446744073709551615) 3) true) <|
ifB (ifB (beq (land (shiftRight m (add a2 64)) 18446744073709551615) 3) (ble (succ a3) (land (shiftRight m (add a2 384)) 18446744073709551615)) false) (
J11 m t s d) <|
okB (ifB (beq a2 0) false true) <|
okB (ifB (beq (land (shiftRight m (add a2 64)) 18446744073709551615) 2) (ifB (beq a2 0) false true) true) <|
okB (ifB (beq (land (shiftRight m (add a2 64)) 18446744073709551615) 2) (ifB (beq a1 0) false true) true) <|
okB (ifB (beq (land (shiftRight m (add a2 64)) 18446744073709551615) 2) (beq (land (shiftRight m (add a2 64)) 18446744073709551615) 2) true) <|
ifB (ifB (beq (land (shiftRight m (add a2 64)) 18446744073709551615) 2) (ifB (ble (succ (xor (land (shiftRight m (add a2 128)) 18446744073709551615) 9223372036854775808)) (xor (land (shiftRight m a1) 18446744073709551615) 9223372036854775808)) false true) false) (
J6 m t s d) <|
okB (ifB (beq a2 0) false true) <|
ifB (ifB (beq (land (shiftRight m (add a2 64)) 18446744073709551615) 2) false true) (
okB (ifB (beq a2 0) false true) <|
okB (ifB (beq a2 0) false true) <|
force (xor (land (shiftRight m a2) (mask 7)) (xor (land (shiftRight m a2) 18446744073709551615) 36893488147419103232)) fun v23 =>
force (xor m (xor (shiftLeft v23 a2) (mod (add v23 a2) 2305843009213693951))) fun m24 =>
J18 m24 t s d) <|
J18 m t s d
def e182 : FunE := ⟨[.ptr (lay 198) false false, .ptr (lay 195) false false, .one (.int .u64)], [.one (.int .i64)], wrapF 3 1 sf182⟩
def i182 : FI := ⟨106, [], [6, 7, 14, 20, 28, 34, 45, 58], [], []⟩
def a182 : An := (.sq .reg (.sc (.lb 2 [] 4 (.sq .skip (.sq (.drw [(0, 0), (1, 0), (2, 0), (3, 0), (4, 0), (5, 0), (6, 0), (7, 0), (8, 0), (9, 0), (10, 0), (11, 0), (12, 0), (13, 0), (14, 0), (15, 0), (16, 0), (17, 1)]) (.sq (.sq .reg .ret) .dead))) (.lb 1 [] 4 (.sq .skip (.sq .reg (.sq (.sq .reg .ret) .dead))) (.lb 0 [] 4 (.sq .skip (.sq .reg .ret)) (.sj [] (.bl (.sq .reg (.cd .go (.sq .reg (.cd .go (.sq (.drw [(0, 0), (1, 0), (2, 0), (3, 0), (4, 0), (5, 0), (6, 0), (7, 0), (8, 0), (9, 0), (10, 0), (11, 0), (12, 0), (13, 0), (14, 0), (15, 0), (16, 0)]) (.cd .go (.sq .reg (.cd .reg .skip))))))))) (.sq .reg (.sq (.drw [(0, 0), (1, 0), (2, 0), (3, 0), (4, 0), (5, 0), (6, 0), (7, 0), (8, 0), (9, 0), (10, 0), (11, 0), (12, 0), (13, 0), (14, 0), (15, 1)]) (.sq (.sq .reg .ret) .dead)))))))))
theorem q182 : AllN 3 fun l => ∀ m t s d k, R.denF i182 a182 (bodyOf Tryz.f182) Tryz.f182.results.toList e182.ps e182.rs l ⟨m, t, s, d⟩ k = wrapF 3 1 sf182 l ⟨m, t, s, d⟩ k := by
  intro x0 x1 x2 m t s d k
  kernel_rfl
theorem ok182 : FunOK Tryz.prog 182 e182 := fun_ok facts mixed (I := i182) FnsOK.nil Tryz.func182 (by kernel_rfl) (by kernel_rfl) (by kernel_rfl) (an := a182) (by kernel_rfl) (by kernel_rfl) q182
def sf129 : FT 2 1 := fun a1 a2 m t s d k =>
ifB (ble 4611686018427387905 a2) (
false) <|
join (fun (p3 m4 t4 s4 d4 : Nat) =>
k p3 m4 t4 s4 d4) fun J5 =>
loopN 37 (fun (_ _ _ _ _ _ : Nat) => false) (fun L9 (p6 p7 m8 t8 s8 d8 : Nat) =>
ifB (ble (succ (xor p7 9223372036854775808)) 9223372036854775841) (
join (fun (p10 m11 t11 s11 d11 : Nat) =>
force (mod (add p7 1) 18446744073709551616) fun v13 =>
L9 p10 v13 m11 t11 s11 d11) fun J12 =>
okB (ifB (beq a1 0) false true) <|
okB (ble (succ p7) 33) <|
force (add (add a1 256) (mul p7 448)) fun v14 =>
ifB (beq (land (shiftRight m8 (add v14 64)) 18446744073709551615) 0) (
J12 p6 m8 t8 s8 d8) <|
sf182 a1 v14 a2 m8 t8 s8 d8 fun r15 m16 t16 s16 d16 =>
ifB (ble 9223372036854775809 (xor r15 9223372036854775808)) (
force (xor p7 (shiftLeft r15 64)) fun v17 =>
join (fun (r18 m19 t19 s19 d19 : Nat) =>
J12 r18 m19 t19 s19 d19) fun J20 =>
appR 2 p6 1 v17 m16 t16 s16 d16 J20) <|
J12 p6 m16 t16 s16 d16) <|
J5 p6 m8 t8 s8 d8) 0 0 m t s d
def e129 : FunE := ⟨[.ptr (lay 198) false false, .one (.int .u64)], [.sli (lay 26)], wrapF 2 1 sf129⟩
def i129 : FI := ⟨38, [34], [4, 5, 6, 7, 8, 10, 11, 12, 23, 29], [(182, e182)], []⟩
def a129 : An := (.sq .reg (.sq (.sq .reg (.cd .dead .skip)) (.sq .reg (.sj [(5, .sh (.sli (lay 26)))] (.sq .reg (.bl (.lp [(5, .sh (.sli (lay 26))), (11, .sh (.one (.int .i64)))] 37 (.sq .reg (.sq (.cd .skip .ex) (.sj [(5, .sh (.sli (lay 26)))] (.bl (.sq .reg (.sq .reg (.sq (.sq .reg (.cd .ex .skip)) (.sq .reg (.sq .reg (.cd .reg .skip))))))) .reg)))))) (.sq .reg .ret)))))
theorem q129 : AllN 2 fun l => ∀ m t s d k, R.denF i129 a129 (bodyOf Tryz.f129) Tryz.f129.results.toList e129.ps e129.rs l ⟨m, t, s, d⟩ k = wrapF 2 1 sf129 l ⟨m, t, s, d⟩ k := by
  intro x0 x1 m t s d k
  kernel_rfl
theorem ok129 : FunOK Tryz.prog 129 e129 := fun_ok facts mixed (I := i129) (FnsOK.cons ok182 FnsOK.nil) Tryz.func129 (by kernel_rfl) (by kernel_rfl) (by kernel_rfl) (an := a129) (by kernel_rfl) (by kernel_rfl) q129
def sf189 : FT 3 1 := fun a1 a2 a3 m t s d k =>
force a1 fun v4 =>
okB (ifB (beq (land (shiftRight m a2) 18446744073709551615) 0) false true) <|
force (ifB (ifB (ble (succ (land (shiftRight m a3) 18446744073709551615)) (mod (add (land (shiftRight v4 192) 18446744073709551615) (land (shiftRight m (add (land (shiftRight m a2) 18446744073709551615) 64)) 18446744073709551615)) 18446744073709551616)) false true) 1 0) fun v5 =>
k v5 m t s d
def e189 : FunE := ⟨[.agg (lay 179), .ptr ([.ptr 183]) false true, .ptr ([.int .u64]) false true], [.one .bool], wrapF 3 1 sf189⟩
def i189 : FI := ⟨14, [3], [3, 4], [], []⟩
def a189 : An := (.sq .reg (.sq (.drw [(0, 0), (1, 0), (2, 0), (3, 0), (4, 0), (5, 0), (6, 0), (7, 0), (8, 0), (9, 0)]) .ret))
theorem q189 : AllN 3 fun l => ∀ m t s d k, R.denF i189 a189 (bodyOf Tryz.f189) Tryz.f189.results.toList e189.ps e189.rs l ⟨m, t, s, d⟩ k = wrapF 3 1 sf189 l ⟨m, t, s, d⟩ k := by
  intro x0 x1 x2 m t s d k
  kernel_rfl
theorem ok189 : FunOK Tryz.prog 189 e189 := fun_ok facts mixed (I := i189) FnsOK.nil Tryz.func189 (by kernel_rfl) (by kernel_rfl) (by kernel_rfl) (an := a189) (by kernel_rfl) (by kernel_rfl) q189
def sf252 : FT 1 1 := fun a1 m t s d k =>
force a1 fun v2 =>
force (ifB (beq (land (shiftRight v2 0) 18446744073709551615) 0) 1 0) fun v3 =>
k v3 m t s d
def e252 : FunE := ⟨[.agg (lay 179)], [.one .bool], wrapF 1 1 sf252⟩
def i252 : FI := ⟨6, [1], [1, 2], [], []⟩
def a252 : An := (.sq .reg (.sq .reg .ret))
theorem q252 : AllN 1 fun l => ∀ m t s d k, R.denF i252 a252 (bodyOf Tryz.f252) Tryz.f252.results.toList e252.ps e252.rs l ⟨m, t, s, d⟩ k = wrapF 1 1 sf252 l ⟨m, t, s, d⟩ k := by
  intro x0 m t s d k
  kernel_rfl
theorem ok252 : FunOK Tryz.prog 252 e252 := fun_ok facts mixed (I := i252) FnsOK.nil Tryz.func252 (by kernel_rfl) (by kernel_rfl) (by kernel_rfl) (an := a252) (by kernel_rfl) (by kernel_rfl) q252
def sf250 : FT 2 1 := fun a1 a2 m t s d k =>
join (fun (m3 t3 s3 d3 : Nat) =>
k 18446744073709551615 m3 t3 s3 d3) fun J4 =>
force (land (shiftRight a1 28) 131071) fun v5 =>
loopN 5 (fun (_ _ _ _ _ : Nat) => false) (fun L8 (p6 m7 t7 s7 d7 : Nat) =>
ifB (ble (succ (xor p6 9223372036854775808)) (xor v5 9223372036854775808)) (
okB (ble (succ p6) (land (shiftRight a1 28) 131071)) <|
okB (beq (land (shiftRight d7 (shiftRight (add (land a1 268435455) (mul p6 256)) 6)) 15) 0) <|
join (fun (r9 m10 t10 s10 d10 : Nat) =>
ifB (beq r9 1) (
k p6 m10 t10 s10 d10) <|
force (mod (add p6 1) 18446744073709551616) fun v12 =>
L8 v12 m10 t10 s10 d10) fun J11 =>
ifB (beq (land a2 1023) 190) (
force (land (shiftRight m7 (add (land a1 268435455) (mul p6 256))) (mask 4)) fun v13 =>
force (shiftLeft (land (shiftRight a2 10) 4194303) 6) fun v14 =>
force (shiftLeft (land (shiftRight a2 32) 4194303) 6) fun v15 =>
sf189 v13 v14 v15 m7 t7 s7 d7 fun r16 m17 t17 s17 d17 =>
J11 r16 m17 t17 s17 d17) <|
ifB (beq (land a2 1023) 253) (
force (land (shiftRight m7 (add (land a1 268435455) (mul p6 256))) (mask 4)) fun v18 =>
sf252 v18 m7 t7 s7 d7 fun r19 m20 t20 s20 d20 =>
J11 r19 m20 t20 s20 d20) <|
false) <|
J4 m7 t7 s7 d7) 0 m t s d
def e250 : FunE := ⟨[.sli (lay 179), .one .fn], [.one (.int .i64)], wrapF 2 1 sf250⟩
def i250 : FI := ⟨19, [], [4, 5, 7, 8, 9, 16], [(189, e189), (252, e252)], [(16, [189, 252])]⟩
def a250 : An := (.sq .reg (.sj [] (.sq .reg (.bl (.lp [(8, .sh (.one (.int .i64)))] 5 (.sq .reg (.sq (.cd .skip .ex) (.sq (.bl (.sq .reg (.sq .reg (.cd (.sq .reg .ret) .skip)))) .reg)))))) (.sq .reg .ret)))
theorem q250 : AllN 2 fun l => ∀ m t s d k, R.denF i250 a250 (bodyOf Tryz.f250) Tryz.f250.results.toList e250.ps e250.rs l ⟨m, t, s, d⟩ k = wrapF 2 1 sf250 l ⟨m, t, s, d⟩ k := by
  intro x0 x1 m t s d k
  kernel_rfl
theorem ok250 : FunOK Tryz.prog 250 e250 := fun_ok facts mixed (I := i250) (FnsOK.cons ok189 (FnsOK.cons ok252 FnsOK.nil)) Tryz.func250 (by kernel_rfl) (by kernel_rfl) (by kernel_rfl) (an := a250) (by kernel_rfl) (by kernel_rfl) q250
def sf187 : FT 2 1 := fun a1 a2 m t s d k =>
sf250 a1 a2 m t s d fun r3 m4 t4 s4 d4 =>
ifB (beq r3 18446744073709551615) (
k a1 m4 t4 s4 d4) <|
join (fun (p5 m6 t6 s6 d6 : Nat) =>
okB (ifB (ble p5 (land (shiftRight a1 28) 131071)) (ble (land (shiftRight a1 28) 131071) (land (shiftRight a1 45) 131071)) false) <|
join (fun (m8 t8 s8 d8 : Nat) =>
okB (ifB (ble 0 p5) (ble p5 (land (shiftRight a1 45) 131071)) false) <|
force (ifB (beq (land a1 268435455) 0) a1 (ifB (beq (add (sub (land (shiftRight a1 45) 131071) 0) (shiftRight a1 62)) 0) 9223372036854775808 (add (land a1 268435455) (shiftLeft (add (sub p5 0) (shiftLeft (add (sub (land (shiftRight a1 45) 131071) 0) (shiftLeft (shiftRight a1 62) 17)) 17)) 28)))) fun v10 =>
k v10 m8 t8 s8 d8) fun J9 =>
clrR (ifB (beq (land a1 268435455) 0) a1 (ifB (beq (add (sub (land (shiftRight a1 45) 131071) p5) (shiftRight a1 62)) 0) 9223372036854775808 (add (add (land a1 268435455) (mul p5 256)) (shiftLeft (add (sub (land (shiftRight a1 28) 131071) p5) (shiftLeft (add (sub (land (shiftRight a1 45) 131071) p5) (shiftLeft (shiftRight a1 62) 17)) 17)) 28)))) 4 m6 t6 s6 d6 J9) fun J7 =>
force (mod (add r3 1) 18446744073709551616) fun v11 =>
loopN 35 (fun (_ _ _ _ _ _ : Nat) => false) (fun L15 (p12 p13 m14 t14 s14 d14 : Nat) =>
ifB (ble (succ (xor p13 9223372036854775808)) (xor (land (shiftRight a1 28) 131071) 9223372036854775808)) (
okB (ble (succ p13) (land (shiftRight a1 28) 131071)) <|
okB (beq (land (shiftRight d14 (shiftRight (add (land a1 268435455) (mul p13 256)) 6)) 15) 0) <|
force (land (shiftRight m14 (add (land a1 268435455) (mul p13 256))) (mask 4)) fun v16 =>
ifB (beq (land a2 1023) 253) (
force v16 fun v17 =>
sf252 v17 m14 t14 s14 d14 fun r18 m19 t19 s19 d19 =>
ifB (ifB (beq r18 1) false true) (
false) <|
force (mod (add p13 1) 18446744073709551616) fun v20 =>
L15 p12 v20 m19 t19 s19 d19) <|
false) <|
J7 p12 m14 t14 s14 d14) r3 v11 m4 t4 s4 d4
def e187 : FunE := ⟨[.sli (lay 179), .one .fn], [.sli (lay 179)], wrapF 2 1 sf187⟩
def i187 : FI := ⟨42, [7], [4, 5, 6, 7, 12, 19, 29], [(250, e250), (252, e252)], [(28, [252])]⟩
def a187 : An := (.sq .reg (.sq .reg (.sq (.sq .reg (.cd (.sq .reg .ret) .skip)) (.sj [(5, .sh (.one (.int .i64)))] (.sq .reg (.bl (.lp [(5, .sh (.one (.int .i64))), (6, .sh (.one (.int .i64)))] 35 (.sq (.sq .reg (.cd .skip .ex)) (.sq (.bl (.sq .reg (.sq .reg (.cd .dead .skip)))) .reg))))) (.sq .reg (.sq .reg .ret))))))
theorem q187 : AllN 2 fun l => ∀ m t s d k, R.denF i187 a187 (bodyOf Tryz.f187) Tryz.f187.results.toList e187.ps e187.rs l ⟨m, t, s, d⟩ k = wrapF 2 1 sf187 l ⟨m, t, s, d⟩ k := by
  intro x0 x1 m t s d k
  kernel_rfl
theorem ok187 : FunOK Tryz.prog 187 e187 := fun_ok facts mixed (I := i187) (FnsOK.cons ok250 (FnsOK.cons ok252 FnsOK.nil)) Tryz.func187 (by kernel_rfl) (by kernel_rfl) (by kernel_rfl) (an := a187) (by kernel_rfl) (by kernel_rfl) q187
def sf251 : FT 1 1 := fun a1 m t s d k =>
ifB (beq a1 0) (
false) <|
okB (beq (land (shiftRight d (shiftRight (land a1 268435455) 6)) (sub (shiftLeft 1 (mul (land (shiftRight a1 28) 131071) 4)) 1)) 0) <|
join (fun (r2 m3 t3 s3 d3 : Nat) =>
k r2 m3 t3 s3 d3) fun J4 =>
appR 4 (add (shiftLeft t 6) 4611686018427387904) (land (shiftRight a1 28) 131071) (land (shiftRight m (land a1 268435455)) (mask (mul (land (shiftRight a1 28) 131071) 4))) m t s d J4
def e251 : FunE := ⟨[.sli (lay 179)], [.sli (lay 179)], wrapF 1 1 sf251⟩
def i251 : FI := ⟨8, [], [2, 4], [], []⟩
def a251 : An := (.sq .reg (.sq (.sq .reg (.cd .dead .skip)) (.sq .reg .ret)))
theorem q251 : AllN 1 fun l => ∀ m t s d k, R.denF i251 a251 (bodyOf Tryz.f251) Tryz.f251.results.toList e251.ps e251.rs l ⟨m, t, s, d⟩ k = wrapF 1 1 sf251 l ⟨m, t, s, d⟩ k := by
  intro x0 m t s d k
  kernel_rfl
theorem ok251 : FunOK Tryz.prog 251 e251 := fun_ok facts mixed (I := i251) FnsOK.nil Tryz.func251 (by kernel_rfl) (by kernel_rfl) (by kernel_rfl) (an := a251) (by kernel_rfl) (by kernel_rfl) q251
def sf188 : FT 1 1 := fun a1 m t s d k =>
okB (ifB (beq a1 0) false true) <|
okB (ifB (ble 1 33) (ifB (ble 33 33) (ble (succ (add a1 128)) 134217728) false) false) <|
force (add (add (add a1 128) 256) 4612811926924165120) fun v2 =>
sf251 v2 m t s d fun r3 m4 t4 s4 d4 =>
sf187 r3 253 m4 t4 s4 d4 fun r5 m6 t6 s6 d6 =>
k r5 m6 t6 s6 d6
def e188 : FunE := ⟨[.ptr (lay 183) false false], [.sli (lay 179)], wrapF 1 1 sf188⟩
def i188 : FI := ⟨9, [], [2], [(187, e187), (251, e251)], []⟩
def a188 : An := (.sq .reg (.sq .reg .ret))
theorem q188 : AllN 1 fun l => ∀ m t s d k, R.denF i188 a188 (bodyOf Tryz.f188) Tryz.f188.results.toList e188.ps e188.rs l ⟨m, t, s, d⟩ k = wrapF 1 1 sf188 l ⟨m, t, s, d⟩ k := by
  intro x0 m t s d k
  kernel_rfl
theorem ok188 : FunOK Tryz.prog 188 e188 := fun_ok facts mixed (I := i188) (FnsOK.cons ok187 (FnsOK.cons ok251 FnsOK.nil)) Tryz.func188 (by kernel_rfl) (by kernel_rfl) (by kernel_rfl) (an := a188) (by kernel_rfl) (by kernel_rfl) q188
def sf293 : FT 4 0 := fun a1 a2 a3 a4 m t s d k =>
force (mod (add a2 1) 18446744073709551616) fun v5 =>
loopN 4 (fun (_ _ _ _ _ : Nat) => false) (fun L8 (p6 m7 t7 s7 d7 : Nat) =>
ifB (ble (succ (xor p6 9223372036854775808)) (xor a3 9223372036854775808)) (
false) <|
k m7 t7 s7 d7) v5 m t s d
def e293 : FunE := ⟨[.sli (lay 179), .one (.int .i64), .one (.int .i64), .one .fn], [], wrapF 4 0 sf293⟩
def i293 : FI := ⟨53, [], [8, 9, 14, 21, 34], [], []⟩
def a293 : An := (.sq .reg (.bl (.lp [(8, .sh (.one (.int .i64)))] 4 (.sq (.sq .reg (.cd .dead .ex)) .dead))))
theorem q293 : AllN 4 fun l => ∀ m t s d k, R.denF i293 a293 (bodyOf Tryz.f293) Tryz.f293.results.toList e293.ps e293.rs l ⟨m, t, s, d⟩ k = wrapF 4 0 sf293 l ⟨m, t, s, d⟩ k := by
  intro x0 x1 x2 x3 m t s d k
  kernel_rfl
theorem ok293 : FunOK Tryz.prog 293 e293 := fun_ok facts mixed (I := i293) FnsOK.nil Tryz.func293 (by kernel_rfl) (by kernel_rfl) (by kernel_rfl) (an := a293) (by kernel_rfl) (by kernel_rfl) q293
def sf253 : FT 5 0 := fun a1 a2 a3 a4 a5 m t s d k =>
force (ifB true 1 0) fun v15 =>
force (ifB true 1 0) fun v16 =>
loopN 4 (fun (_ _ _ _ _ _ _ _ _ : Nat) => false) (fun L12 (p6 p7 p8 p9 p10 m11 t11 s11 d11 : Nat) =>
force (mod (sub (add p7 18446744073709551616) p6) 18446744073709551616) fun v13 =>
ifB (ifB (ble 9223372036854775821 (xor v13 9223372036854775808)) false true) (
sf293 a1 p6 p7 a5 m11 t11 s11 d11 fun m14 t14 s14 d14 =>
k m14 t14 s14 d14) <|
false) a2 a3 a4 v15 v16 m t s d
def e253 : FunE := ⟨[.sli (lay 179), .one (.int .i64), .one (.int .i64), .one (.int .i64), .one .fn], [], wrapF 5 0 sf253⟩
def i253 : FI := ⟨148, [], [1, 2, 3, 10, 11, 12, 13, 14, 15, 16, 17, 18, 19, 20, 25, 32, 39, 47, 56, 69, 72, 75, 80, 83, 97, 105, 125], [(293, e293)], []⟩
def a253 : An := (.sq .reg (.sq .reg (.bl (.lp [(1, .sh (.one (.int .i64))), (2, .sh (.one (.int .i64))), (3, .sh (.one (.int .i64))), (10, .sh (.one .bool)), (11, .sh (.one .bool))] 4 (.bl (.sq .reg (.sq (.sq .reg (.cd (.sq .reg .ret) .dead)) .dead)))))))
theorem q253 : AllN 5 fun l => ∀ m t s d k, R.denF i253 a253 (bodyOf Tryz.f253) Tryz.f253.results.toList e253.ps e253.rs l ⟨m, t, s, d⟩ k = wrapF 5 0 sf253 l ⟨m, t, s, d⟩ k := by
  intro x0 x1 x2 x3 x4 m t s d k
  kernel_rfl
theorem ok253 : FunOK Tryz.prog 253 e253 := fun_ok facts mixed (I := i253) (FnsOK.cons ok293 FnsOK.nil) Tryz.func253 (by kernel_rfl) (by kernel_rfl) (by kernel_rfl) (an := a253) (by kernel_rfl) (by kernel_rfl) q253
def sf190 : FT 2 0 := fun a1 a2 m t s d k =>
force (land (shiftRight a1 28) 131071) fun v3 =>
sf254 v3 m t s d fun r4 m5 t5 s5 d5 =>
sf253 a1 0 v3 r4 a2 m5 t5 s5 d5 fun m6 t6 s6 d6 =>
k m6 t6 s6 d6
def e190 : FunE := ⟨[.sli (lay 179), .one .fn], [], wrapF 2 0 sf190⟩
def i190 : FI := ⟨14, [], [4], [(253, e253), (254, e254)], []⟩
def a190 : An := (.sq .reg .reg)
theorem q190 : AllN 2 fun l => ∀ m t s d k, R.denF i190 a190 (bodyOf Tryz.f190) Tryz.f190.results.toList e190.ps e190.rs l ⟨m, t, s, d⟩ k = wrapF 2 0 sf190 l ⟨m, t, s, d⟩ k := by
  intro x0 x1 m t s d k
  kernel_rfl
theorem ok190 : FunOK Tryz.prog 190 e190 := fun_ok facts mixed (I := i190) (FnsOK.cons ok253 (FnsOK.cons ok254 FnsOK.nil)) Tryz.func190 (by kernel_rfl) (by kernel_rfl) (by kernel_rfl) (an := a190) (by kernel_rfl) (by kernel_rfl) q190
def sf135 : FT 2 2 := fun a1 a2 m t s d k =>
force (shiftLeft t 6) fun v3 =>
force (add t 1) fun t4 =>
okB (ble (succ t4) 4194304) <|
force (xor m (xor (shiftLeft a1 (shiftLeft t 6)) (mod (add a1 t) 2305843009213693951))) fun m5 =>
force (shiftLeft t4 6) fun v6 =>
force (add t4 1) fun t7 =>
okB (ble (succ t7) 4194304) <|
force (xor m5 (xor (shiftLeft a2 (shiftLeft t4 6)) (mod (add a2 t4) 2305843009213693951))) fun m8 =>
join (loopN 4 (fun (_ _ _ _ _ _ _ _ _ : Nat) => false) (fun L15 (p9 p10 p11 p12 p13 m14 t14 s14 d14 : Nat) =>
ifB (beq p13 (land (shiftRight p10 28) 131071)) (
force p9 fun v17 =>
force v17 fun v18 =>
force (ifB (ble 9223372036854775809 (xor p11 9223372036854775808)) 1 0) fun v19 =>
k v18 v19 m14 t14 s14 d14) <|
okB (ifB (ifB (beq p13 0) false true) (ble (succ p13) (land (shiftRight p10 28) 131071)) true) <|
okB (ifB (ifB (beq p13 0) false true) (beq (land (shiftRight d14 (shiftRight (add (add (land p10 268435455) (mul p13 256)) 64) 6)) 3) 0) true) <|
okB (ifB (ifB (beq p13 0) false true) (ble (succ (mod (sub (add p13 18446744073709551616) 1) 18446744073709551616)) (land (shiftRight p10 28) 131071)) true) <|
okB (ifB (ifB (beq p13 0) false true) (beq (land (shiftRight d14 (shiftRight (add (add (land p10 268435455) (mul (mod (sub (add p13 18446744073709551616) 1) 18446744073709551616) 256)) 64) 6)) 3) 0) true) <|
okB (ifB (beq p13 0) true (ifB (beq p13 0) false true)) <|
ifB (ifB (beq p13 0) true (ifB (beq (land (shiftRight m14 (add (add (land p10 268435455) (mul p13 256)) 64)) 340282366920938463463374607431768211455) (land (shiftRight m14 (add (add (land p10 268435455) (mul (mod (sub (add p13 18446744073709551616) 1) 18446744073709551616) 256)) 64)) 340282366920938463463374607431768211455)) false true)) (
force 1 fun v20 =>
ifB (ble (succ (xor p11 9223372036854775808)) (xor v20 9223372036854775808)) (
okB (ble (succ p13) (land (shiftRight p10 28) 131071)) <|
okB (beq (land (shiftRight d14 (shiftRight (add (add (land p10 268435455) (mul p13 256)) 64) 6)) 3) 0) <|
force (land (shiftRight m14 (add (add (land p10 268435455) (mul p13 256)) 64)) 340282366920938463463374607431768211455) fun v21 =>
force (mod (add p13 1) 18446744073709551616) fun v22 =>
L15 v21 p10 v20 v20 v22 m14 t14 s14 d14) <|
false) <|
false)) fun J16 =>
force (land (shiftRight m8 v3) 18446744073709551615) fun v23 =>
sf188 v23 m8 t7 s d fun r24 m25 t25 s25 d25 =>
okB (ifB (ifB (beq v3 0) false (ble (succ v3) 268435456)) (ifB (beq v6 0) false (ble (succ v6) 268435456)) false) <|
force (add (add 190 (shiftLeft (shiftRight v3 6) 10)) (shiftLeft (shiftRight v6 6) 32)) fun v26 =>
sf187 r24 v26 m25 t25 s25 d25 fun r27 m28 t28 s28 d28 =>
sf190 r27 192 m28 t28 s28 d28 fun m29 t29 s29 d29 =>
ifB (beq 0 (land (shiftRight r27 28) 131071)) (
force 0 fun v30 =>
force v30 fun v31 =>
force (ifB (ble 9223372036854775809 9223372036854775808) 1 0) fun v32 =>
k v31 v32 m29 t29 s29 d29) <|
okB (ifB (ifB (beq 0 0) false true) (ble 1 (land (shiftRight r27 28) 131071)) true) <|
okB (ifB (ifB (beq 0 0) false true) (beq (land (shiftRight d29 (shiftRight (add (add (land r27 268435455) 0) 64) 6)) 3) 0) true) <|
okB (ifB (ifB (beq 0 0) false true) (ble 18446744073709551616 (land (shiftRight r27 28) 131071)) true) <|
okB (ifB (ifB (beq 0 0) false true) (beq (land (shiftRight d29 (shiftRight (add (add (land r27 268435455) 4722366482869645213440) 64) 6)) 3) 0) true) <|
okB (ifB (beq 0 0) true (ifB (beq 0 0) false true)) <|
ifB (ifB (beq 0 0) true (ifB (beq (land (shiftRight m29 (add (add (land r27 268435455) 0) 64)) 340282366920938463463374607431768211455) (land (shiftRight m29 (add (add (land r27 268435455) 4722366482869645213440) 64)) 340282366920938463463374607431768211455)) false true)) (
force 1 fun v33 =>
ifB (ble 9223372036854775809 (xor v33 9223372036854775808)) (
okB (ble 1 (land (shiftRight r27 28) 131071)) <|
okB (beq (land (shiftRight d29 (shiftRight (add (add (land r27 268435455) 0) 64) 6)) 3) 0) <|
force (land (shiftRight m29 (add (add (land r27 268435455) 0) 64)) 340282366920938463463374607431768211455) fun v34 =>
force 1 fun v35 =>
J16 v34 r27 v33 v33 v35 m29 t29 s29 d29) <|
false) <|
false
def e135 : FunE := ⟨[.ptr (lay 183) false false, .one (.int .u64)], [.agg (lay 44), .one .bool], wrapF 2 2 sf135⟩
def i135 : FI := ⟨52, [4], [2, 3, 4, 5, 6, 7, 8, 9, 19, 25, 38, 43], [(187, e187), (188, e188), (190, e190)], []⟩
def a135 : An := (.sq .reg (.sc (.lb 0 [(4, .loc (lay 44)), (6, .sh (.sli (lay 179))), (7, .sh (.one (.int .i64))), (8, .sh (.one (.int .i64))), (9, .sh (.one (.int .i64)))] 4 (.sq .skip (.sq (.sq .reg (.cd (.sq .reg .ret) .skip)) (.sq (.sq (.drw [(0, 0), (1, 0), (2, 0), (3, 0), (4, 0), (5, 0), (6, 0), (7, 0), (8, 0), (9, 0), (10, 0), (11, 0), (12, 0), (13, 0), (14, 0), (15, 0)]) (.cd .reg .dead)) (.sq (.sq .reg (.sq .reg (.cd (.drw [(0, 0), (1, 0), (2, 0), (3, 0), (4, 0), (5, 0), (6, 0), (7, 1)]) .dead))) (.sq .reg .go))))) (.sq .reg (.sq .reg (.sq .reg (.sq .skip (.sq (.sq .reg (.cd (.sq .reg .ret) .skip)) (.sq (.sq (.drw [(0, 0), (1, 0), (2, 0), (3, 0), (4, 0), (5, 0), (6, 0), (7, 0), (8, 0), (9, 0), (10, 0), (11, 0), (12, 0), (13, 0), (14, 0), (15, 0)]) (.cd .reg .dead)) (.sq (.sq .reg (.sq .reg (.cd (.drw [(0, 0), (1, 0), (2, 0), (3, 0), (4, 0), (5, 0), (6, 0), (7, 1)]) .dead))) (.sq .reg .go)))))))))))
theorem q135 : AllN 2 fun l => ∀ m t s d k, R.denF i135 a135 (bodyOf Tryz.f135) Tryz.f135.results.toList e135.ps e135.rs l ⟨m, t, s, d⟩ k = wrapF 2 2 sf135 l ⟨m, t, s, d⟩ k := by
  intro x0 x1 m t s d k
  kernel_rfl
theorem ok135 : FunOK Tryz.prog 135 e135 := fun_ok facts mixed (I := i135) (FnsOK.cons ok187 (FnsOK.cons ok188 (FnsOK.cons ok190 FnsOK.nil))) Tryz.func135 (by kernel_rfl) (by kernel_rfl) (by kernel_rfl) (an := a135) (by kernel_rfl) (by kernel_rfl) q135
def sf131r : FT 2 1 := fun a1 a2 m t s d k =>
okB (ifB (beq a1 0) false true) <|
force (land (shiftRight m (add a1 1664)) 18446744073709551615) fun v3 =>
sf135 v3 a2 m t s d fun r4 r5 m6 t6 s6 d6 =>
force r4 fun v7 =>
ifB (beq r5 1) (
force v7 fun v8 =>
force v8 fun v9 =>
k v9 m6 t6 s6 d6) <|
okB (ifB (beq a1 0) false true) <|
force (land (shiftRight m6 (add (add a1 640) 192)) 340282366920938463463374607431768211455) fun v10 =>
force v10 fun v11 =>
k v11 m6 t6 s6 d6
def e131r : FunE := ⟨[.ptr (lay 104) false false, .one (.int .u64)], [.agg (lay 44)], wrapF 2 1 sf131r⟩
def i131r : FI := ⟨23, [4, 5], [4, 5, 6, 7, 16], [(135, e135)], []⟩
def a131r : An := (.sq .reg (.sq (.sq .reg (.sq .reg (.cd (.sq .reg .ret) .skip))) (.sq .reg .ret)))
theorem q131r : AllN 2 fun l => ∀ m t s d k, R.denF i131r a131r (bodyOf Tryz.f131) Tryz.f131.results.toList e131r.ps e131r.rs l ⟨m, t, s, d⟩ k = wrapF 2 1 sf131r l ⟨m, t, s, d⟩ k := by
  intro x0 x1 m t s d k
  kernel_rfl
theorem ok131r : FunOK Tryz.prog 131 e131r := fun_ok facts mixed (I := i131r) (FnsOK.cons ok135 FnsOK.nil) Tryz.func131 (by kernel_rfl) (by kernel_rfl) (by kernel_rfl) (an := a131r) (by kernel_rfl) (by kernel_rfl) q131r
def sf131 : FT 2 1 := fun a0 a1 m t s d k =>
sf131r a0 a1 m t s d fun r0 m1 t1 s1 d1 =>
ifB (beq (shiftRight m 64) (shiftRight (land (shiftRight m1 0) (mask t)) 64)) (k r0 m t s1 (mod d1 (pow 2 t))) <|
k r0 m1 t1 s1 d1
def e131 : FunE := ⟨[.ptr (lay 104) false false, .one (.int .u64)], [.agg (lay 44)], wrapF 2 1 sf131⟩
theorem q131 : AllN 2 fun l => ∀ m t s d k, resetF e131r.rs e131r.f l ⟨m, t, s, d⟩ k = wrapF 2 1 sf131 l ⟨m, t, s, d⟩ k := by
  intro x0 x1 m t s d k
  kernel_rfl
theorem ok131 : FunOK Tryz.prog 131 e131 := FunOK.wrap (FunOK.reset (ps := e131r.ps) (rs := e131r.rs) (F := e131r.f) ok131r) q131
def sf93 : FT 2 0 := fun a1 a2 m t s d k =>
okB (ifB (beq a1 0) false true) <|
force (land (shiftRight m (add a1 1856)) 18446744073709551615) fun v3 =>
sf129 v3 a2 m t s d fun r4 m5 t5 s5 d5 =>
force (land (shiftRight r4 28) 131071) fun v6 =>
loopN 5 (fun (_ _ _ _ _ : Nat) => false) (fun L9 (p7 m8 t8 s8 d8 : Nat) =>
ifB (ble (succ (xor p7 9223372036854775808)) (xor v6 9223372036854775808)) (
join (fun (m10 t10 s10 d10 : Nat) =>
force (mod (add p7 1) 18446744073709551616) fun v12 =>
L9 v12 m10 t10 s10 d10) fun J11 =>
okB (ble (succ p7) (land (shiftRight r4 28) 131071)) <|
okB (beq (land (shiftRight d8 (shiftRight (add (land r4 268435455) (mul p7 128)) 6)) 3) 0) <|
force (land (shiftRight m8 (add (land r4 268435455) (mul p7 128))) 340282366920938463463374607431768211455) fun v13 =>
ifB (beq (land (shiftRight v13 64) 18446744073709551615) 1) (
sf131 a1 a2 m8 t8 s8 d8 fun r14 m15 t15 s15 d15 =>
okB (beq (land (shiftRight v13 0) 18446744073709551615) (land (shiftRight v13 0) 18446744073709551615)) <|
okB (beq (land (shiftRight v13 0) 18446744073709551615) (land (shiftRight v13 0) 18446744073709551615)) <|
force (land (shiftRight v13 0) 18446744073709551615) fun v16 =>
force (xor (xor (xor 16 340282366920938463463374607431768211456) (shiftLeft (land (shiftRight v13 0) 18446744073709551615) 192)) (shiftLeft r14 256)) fun v17 =>
sf130 a1 v16 v17 m15 t15 s15 d15 fun r18 m19 t19 s19 d19 =>
J11 m19 t19 s19 d19) <|
okB (ifB (beq a1 0) false true) <|
force (land (shiftRight m8 (add a1 1856)) 18446744073709551615) fun v20 =>
force (land (shiftRight v13 0) 18446744073709551615) fun v21 =>
sf132 v20 v21 m8 t8 s8 d8 fun r22 r23 m24 t24 s24 d24 =>
okB (beq (land (shiftRight v13 0) 18446744073709551615) (land (shiftRight v13 0) 18446744073709551615)) <|
okB (beq (land (shiftRight m24 (add a1 1856)) 18446744073709551615) (land (shiftRight m8 (add a1 1856)) 18446744073709551615)) <|
force r22 fun v25 =>
force (land (shiftRight v25 192) 340282366920938463463374607431768211455) fun v26 =>
force 12 fun v27 =>
sf105 a1 v26 v27 m24 t24 s24 d24 fun m28 t28 s28 d28 =>
J11 m28 t28 s28 d28) <|
k m8 t8 s8 d8) 0 m5 t5 s5 d5
def e93 : FunE := ⟨[.ptr (lay 104) false false, .one (.int .u64)], [], wrapF 2 0 sf93⟩
def i93 : FI := ⟨48, [5, 6], [5, 6, 13, 14, 15, 16, 21, 32], [(105, e105), (129, e129), (130, e130), (131, e131), (132, e132)], []⟩
def a93 : An := (.sq .reg (.bl (.lp [(15, .sh (.one (.int .i64)))] 5 (.sq .reg (.sq (.cd .skip .ex) (.sj [] (.bl (.sq .reg (.sq (.sq .reg (.cd (.sq (.drw [(0, 0), (1, 0), (2, 0), (3, 0), (4, 0), (5, 0), (6, 0), (7, 1), (8, 0), (9, 1)]) .ex) .skip)) (.sq (.drw [(0, 0), (1, 0), (2, 0), (3, 0), (4, 0), (5, 0), (6, 1), (7, 0), (8, 0), (9, 0), (10, 2), (11, 1), (12, 0)]) .reg)))) .reg))))))
theorem q93 : AllN 2 fun l => ∀ m t s d k, R.denF i93 a93 (bodyOf Tryz.f93) Tryz.f93.results.toList e93.ps e93.rs l ⟨m, t, s, d⟩ k = wrapF 2 0 sf93 l ⟨m, t, s, d⟩ k := by
  intro x0 x1 m t s d k
  kernel_rfl
theorem ok93 : FunOK Tryz.prog 93 e93 := fun_ok facts mixed (I := i93) (FnsOK.cons ok105 (FnsOK.cons ok129 (FnsOK.cons ok130 (FnsOK.cons ok131 (FnsOK.cons ok132 FnsOK.nil))))) Tryz.func93 (by kernel_rfl) (by kernel_rfl) (by kernel_rfl) (an := a93) (by kernel_rfl) (by kernel_rfl) q93
def sf186 : FT 1 1 := fun a1 m t s d k =>
force a1 fun v2 =>
force (ifB (beq (land (shiftRight v2 0) 18446744073709551615) 0) 1 0) fun v3 =>
k v3 m t s d
def e186 : FunE := ⟨[.agg (lay 179)], [.one .bool], wrapF 1 1 sf186⟩
def i186 : FI := ⟨6, [1], [1, 2], [], []⟩
def a186 : An := (.sq .reg (.sq .reg .ret))
theorem q186 : AllN 1 fun l => ∀ m t s d k, R.denF i186 a186 (bodyOf Tryz.f186) Tryz.f186.results.toList e186.ps e186.rs l ⟨m, t, s, d⟩ k = wrapF 1 1 sf186 l ⟨m, t, s, d⟩ k := by
  intro x0 m t s d k
  kernel_rfl
theorem ok186 : FunOK Tryz.prog 186 e186 := fun_ok facts mixed (I := i186) FnsOK.nil Tryz.func186 (by kernel_rfl) (by kernel_rfl) (by kernel_rfl) (an := a186) (by kernel_rfl) (by kernel_rfl) q186
def sf249 : FT 2 1 := fun a1 a2 m t s d k =>
force (land (shiftRight a1 28) 131071) fun v3 =>
loopN 4 (fun (_ _ _ _ _ : Nat) => false) (fun L6 (p4 m5 t5 s5 d5 : Nat) =>
ifB (ble (succ (xor p4 9223372036854775808)) (xor v3 9223372036854775808)) (
okB (ble (succ p4) (land (shiftRight a1 28) 131071)) <|
okB (beq (land (shiftRight d5 (shiftRight (add (land a1 268435455) (mul p4 256)) 6)) 15) 0) <|
ifB (beq (land a2 1023) 187) (
force (land (shiftRight m5 (add (land a1 268435455) (mul p4 256))) (mask 4)) fun v7 =>
sf186 v7 m5 t5 s5 d5 fun r8 m9 t9 s9 d9 =>
ifB (beq r8 1) (
k p4 m9 t9 s9 d9) <|
false) <|
false) <|
false) 0 m t s d
def e249 : FunE := ⟨[.sli (lay 179), .one .fn], [.one (.int .i64)], wrapF 2 1 sf249⟩
def i249 : FI := ⟨19, [], [4, 5, 7, 8, 9, 16], [(186, e186)], [(16, [186])]⟩
def a249 : An := (.sq .reg (.sq (.sq .reg (.bl (.lp [(8, .sh (.one (.int .i64)))] 4 (.sq .reg (.sq (.cd .skip .dead) (.sq (.bl (.sq .reg (.sq .reg (.cd (.sq .reg .ret) .dead)))) .dead)))))) .dead))
theorem q249 : AllN 2 fun l => ∀ m t s d k, R.denF i249 a249 (bodyOf Tryz.f249) Tryz.f249.results.toList e249.ps e249.rs l ⟨m, t, s, d⟩ k = wrapF 2 1 sf249 l ⟨m, t, s, d⟩ k := by
  intro x0 x1 m t s d k
  kernel_rfl
theorem ok249 : FunOK Tryz.prog 249 e249 := fun_ok facts mixed (I := i249) (FnsOK.cons ok186 FnsOK.nil) Tryz.func249 (by kernel_rfl) (by kernel_rfl) (by kernel_rfl) (an := a249) (by kernel_rfl) (by kernel_rfl) q249
def sf184 : FT 2 1 := fun a1 a2 m t s d k =>
sf249 a1 a2 m t s d fun r3 m4 t4 s4 d4 =>
ifB (beq r3 18446744073709551615) (
false) <|
join (fun (p5 m6 t6 s6 d6 : Nat) =>
okB (ifB (ble p5 (land (shiftRight a1 28) 131071)) (ble (land (shiftRight a1 28) 131071) (land (shiftRight a1 45) 131071)) false) <|
join (fun (m8 t8 s8 d8 : Nat) =>
okB (ifB (ble 0 p5) (ble p5 (land (shiftRight a1 45) 131071)) false) <|
force (ifB (beq (land a1 268435455) 0) a1 (ifB (beq (add (sub (land (shiftRight a1 45) 131071) 0) (shiftRight a1 62)) 0) 9223372036854775808 (add (land a1 268435455) (shiftLeft (add (sub p5 0) (shiftLeft (add (sub (land (shiftRight a1 45) 131071) 0) (shiftLeft (shiftRight a1 62) 17)) 17)) 28)))) fun v10 =>
k v10 m8 t8 s8 d8) fun J9 =>
clrR (ifB (beq (land a1 268435455) 0) a1 (ifB (beq (add (sub (land (shiftRight a1 45) 131071) p5) (shiftRight a1 62)) 0) 9223372036854775808 (add (add (land a1 268435455) (mul p5 256)) (shiftLeft (add (sub (land (shiftRight a1 28) 131071) p5) (shiftLeft (add (sub (land (shiftRight a1 45) 131071) p5) (shiftLeft (shiftRight a1 62) 17)) 17)) 28)))) 4 m6 t6 s6 d6 J9) fun J7 =>
force (mod (add r3 1) 18446744073709551616) fun v11 =>
loopN 36 (fun (_ _ _ _ _ _ : Nat) => false) (fun L15 (p12 p13 m14 t14 s14 d14 : Nat) =>
ifB (ble (succ (xor p13 9223372036854775808)) (xor (land (shiftRight a1 28) 131071) 9223372036854775808)) (
join (fun (p16 m17 t17 s17 d17 : Nat) =>
force (mod (add p13 1) 18446744073709551616) fun v19 =>
L15 p16 v19 m17 t17 s17 d17) fun J18 =>
okB (ble (succ p13) (land (shiftRight a1 28) 131071)) <|
okB (beq (land (shiftRight d14 (shiftRight (add (land a1 268435455) (mul p13 256)) 6)) 15) 0) <|
force (land (shiftRight m14 (add (land a1 268435455) (mul p13 256))) (mask 4)) fun v20 =>
ifB (beq (land a2 1023) 187) (
force v20 fun v21 =>
sf186 v21 m14 t14 s14 d14 fun r22 m23 t23 s23 d23 =>
ifB (ifB (beq r22 1) false true) (
okB (ble (succ p12) (land (shiftRight a1 28) 131071)) <|
okB (beq (land (shiftRight d23 (shiftRight (add (land a1 268435455) (mul p12 256)) 6)) 15) 0) <|
force (xor (land (shiftRight m23 (add (land a1 268435455) (mul p12 256))) (mask 4)) v20) fun v24 =>
force (xor m23 (xor (shiftLeft v24 (add (land a1 268435455) (mul p12 256))) (mod (add v24 (add (land a1 268435455) (mul p12 256))) 2305843009213693951))) fun m25 =>
force (mod (add p12 1) 18446744073709551616) fun v26 =>
J18 v26 m25 t23 s23 d23) <|
J18 p12 m23 t23 s23 d23) <|
false) <|
J7 p12 m14 t14 s14 d14) r3 v11 m4 t4 s4 d4
def e184 : FunE := ⟨[.sli (lay 179), .one .fn], [.sli (lay 179)], wrapF 2 1 sf184⟩
def i184 : FI := ⟨42, [7], [4, 5, 6, 7, 12, 19, 29], [(186, e186), (249, e249)], [(28, [186])]⟩
def a184 : An := (.sq .reg (.sq .reg (.sq (.sq .reg (.cd .dead .skip)) (.sj [(5, .sh (.one (.int .i64)))] (.sq .reg (.bl (.lp [(5, .sh (.one (.int .i64))), (6, .sh (.one (.int .i64)))] 36 (.sq (.sq .reg (.cd .skip .ex)) (.sj [(5, .sh (.one (.int .i64)))] (.bl (.sq .reg (.sq .reg (.cd (.sq .reg .reg) .skip)))) .reg))))) (.sq .reg (.sq .reg .ret))))))
theorem q184 : AllN 2 fun l => ∀ m t s d k, R.denF i184 a184 (bodyOf Tryz.f184) Tryz.f184.results.toList e184.ps e184.rs l ⟨m, t, s, d⟩ k = wrapF 2 1 sf184 l ⟨m, t, s, d⟩ k := by
  intro x0 x1 m t s d k
  kernel_rfl
theorem ok184 : FunOK Tryz.prog 184 e184 := fun_ok facts mixed (I := i184) (FnsOK.cons ok186 (FnsOK.cons ok249 FnsOK.nil)) Tryz.func184 (by kernel_rfl) (by kernel_rfl) (by kernel_rfl) (an := a184) (by kernel_rfl) (by kernel_rfl) q184
def sf185 : FT 1 1 := fun a1 m t s d k =>
ifB (beq a1 0) (
false) <|
okB (beq (land (shiftRight d (shiftRight (land a1 268435455) 6)) (sub (shiftLeft 1 (mul (land (shiftRight a1 28) 131071) 4)) 1)) 0) <|
join (fun (r2 m3 t3 s3 d3 : Nat) =>
k r2 m3 t3 s3 d3) fun J4 =>
appR 4 (add (shiftLeft t 6) 4611686018427387904) (land (shiftRight a1 28) 131071) (land (shiftRight m (land a1 268435455)) (mask (mul (land (shiftRight a1 28) 131071) 4))) m t s d J4
def e185 : FunE := ⟨[.sli (lay 179)], [.sli (lay 179)], wrapF 1 1 sf185⟩
def i185 : FI := ⟨8, [], [2, 4], [], []⟩
def a185 : An := (.sq .reg (.sq (.sq .reg (.cd .dead .skip)) (.sq .reg .ret)))
theorem q185 : AllN 1 fun l => ∀ m t s d k, R.denF i185 a185 (bodyOf Tryz.f185) Tryz.f185.results.toList e185.ps e185.rs l ⟨m, t, s, d⟩ k = wrapF 1 1 sf185 l ⟨m, t, s, d⟩ k := by
  intro x0 m t s d k
  kernel_rfl
theorem ok185 : FunOK Tryz.prog 185 e185 := fun_ok facts mixed (I := i185) FnsOK.nil Tryz.func185 (by kernel_rfl) (by kernel_rfl) (by kernel_rfl) (an := a185) (by kernel_rfl) (by kernel_rfl) q185
def sf133 : FT 1 1 := fun a1 m t s d k =>
okB (ifB (beq a1 0) false true) <|
okB (ifB (ble 0 33) (ifB (ble 33 33) (ble (succ (add a1 128)) 134217728) false) false) <|
force (add (add (add a1 128) 0) 4612847111564689408) fun v2 =>
sf185 v2 m t s d fun r3 m4 t4 s4 d4 =>
sf184 r3 187 m4 t4 s4 d4 fun r5 m6 t6 s6 d6 =>
k r5 m6 t6 s6 d6
def e133 : FunE := ⟨[.ptr (lay 188) false false], [.sli (lay 179)], wrapF 1 1 sf133⟩
def i133 : FI := ⟨9, [], [2], [(184, e184), (185, e185)], []⟩
def a133 : An := (.sq .reg (.sq .reg .ret))
theorem q133 : AllN 1 fun l => ∀ m t s d k, R.denF i133 a133 (bodyOf Tryz.f133) Tryz.f133.results.toList e133.ps e133.rs l ⟨m, t, s, d⟩ k = wrapF 1 1 sf133 l ⟨m, t, s, d⟩ k := by
  intro x0 m t s d k
  kernel_rfl
theorem ok133 : FunOK Tryz.prog 133 e133 := fun_ok facts mixed (I := i133) (FnsOK.cons ok184 (FnsOK.cons ok185 FnsOK.nil)) Tryz.func133 (by kernel_rfl) (by kernel_rfl) (by kernel_rfl) (an := a133) (by kernel_rfl) (by kernel_rfl) q133
def sf134 : FT 2 1 := fun a1 a2 m t s d k =>
sf179 a2 m t s d fun r3 m4 t4 s4 d4 =>
okB (ifB (ifB (ifB (beq r3 1) false true) false true) (ifB (beq a1 0) false true) true) <|
okB (ifB (ifB (ifB (beq r3 1) false true) false true) (ble (succ a2) 33) true) <|
okB (ifB (ifB (beq r3 1) false true) true (ifB (ifB (beq r3 1) false true) false true)) <|
ifB (ifB (ifB (beq r3 1) false true) true (beq (land (shiftRight m4 (add (add a1 128) (mul a2 256))) 18446744073709551615) 0)) (
false) <|
okB (ifB (beq a1 0) false true) <|
okB (ble (succ a2) 33) <|
force (xor (land (shiftRight m4 (add (add a1 128) (mul a2 256))) (mask 4)) 0) fun v5 =>
force (xor m4 (xor (shiftLeft v5 (add (add a1 128) (mul a2 256))) (mod (add v5 (add (add a1 128) (mul a2 256))) 2305843009213693951))) fun m6 =>
force (ifB true 1 0) fun v7 =>
k v7 m6 t4 s4 d4
def e134 : FunE := ⟨[.ptr (lay 188) false false, .one (.int .i64)], [.one .bool], wrapF 2 1 sf134⟩
def i134 : FI := ⟨24, [], [4, 8, 17], [(179, e179)], []⟩
def a134 : An := (.sq .reg (.sq (.sq .reg (.cd .dead .skip)) (.sq .reg (.sq .reg .ret))))
theorem q134 : AllN 2 fun l => ∀ m t s d k, R.denF i134 a134 (bodyOf Tryz.f134) Tryz.f134.results.toList e134.ps e134.rs l ⟨m, t, s, d⟩ k = wrapF 2 1 sf134 l ⟨m, t, s, d⟩ k := by
  intro x0 x1 m t s d k
  kernel_rfl
theorem ok134 : FunOK Tryz.prog 134 e134 := fun_ok facts mixed (I := i134) (FnsOK.cons ok179 FnsOK.nil) Tryz.func134 (by kernel_rfl) (by kernel_rfl) (by kernel_rfl) (an := a134) (by kernel_rfl) (by kernel_rfl) q134
def sf94r : FT 2 1 := fun a1 a2 m t s d k =>
join (fun (p3 m4 t4 s4 d4 : Nat) =>
k p3 m4 t4 s4 d4) fun J5 =>
sf133 a1 m t s d fun r6 m7 t7 s7 d7 =>
force (land (shiftRight r6 28) 131071) fun v8 =>
loopN 5 (fun (_ _ _ _ _ _ : Nat) => false) (fun L12 (p9 p10 m11 t11 s11 d11 : Nat) =>
ifB (ble (succ (xor p10 9223372036854775808)) (xor v8 9223372036854775808)) (
join (fun (p13 m14 t14 s14 d14 : Nat) =>
force (mod (add p10 1) 18446744073709551616) fun v16 =>
L12 p13 v16 m14 t14 s14 d14) fun J15 =>
okB (ble (succ p10) (land (shiftRight r6 28) 131071)) <|
okB (beq (land (shiftRight d11 (shiftRight (add (land r6 268435455) (mul p10 256)) 6)) 15) 0) <|
force (land (shiftRight m11 (add (land r6 268435455) (mul p10 256))) (mask 4)) fun v17 =>
ifB (ifB (ble (succ a2) (land (shiftRight v17 192) 18446744073709551615)) false true) (
force (land (shiftRight v17 0) 18446744073709551615) fun v18 =>
sf134 a1 v18 m11 t11 s11 d11 fun r19 m20 t20 s20 d20 =>
force (land (shiftRight v17 0) 18446744073709551615) fun v21 =>
join (fun (r22 m23 t23 s23 d23 : Nat) =>
J15 r22 m23 t23 s23 d23) fun J24 =>
appR 1 p9 1 v21 m20 t20 s20 d20 J24) <|
J15 p9 m11 t11 s11 d11) <|
J5 p9 m11 t11 s11 d11) 0 0 m7 t7 s7 d7
def e94r : FunE := ⟨[.ptr (lay 188) false false, .one (.int .u64)], [.sli ([.int .i64])], wrapF 2 1 sf94r⟩
def i94r : FI := ⟨30, [7, 26], [4, 5, 7, 9, 10, 11, 12, 18], [(133, e133), (134, e134)], []⟩
def a94r : An := (.sq .reg (.sq .reg (.sj [(5, .sh (.sli ([.int .i64])))] (.sq .reg (.bl (.lp [(5, .sh (.sli ([.int .i64]))), (11, .sh (.one (.int .i64)))] 5 (.sq .reg (.sq (.cd .skip .ex) (.sj [(5, .sh (.sli ([.int .i64])))] (.bl (.sq .reg (.sq .reg (.cd (.sq .reg .reg) .skip)))) .reg)))))) (.sq .reg .ret))))
theorem q94r : AllN 2 fun l => ∀ m t s d k, R.denF i94r a94r (bodyOf Tryz.f94) Tryz.f94.results.toList e94r.ps e94r.rs l ⟨m, t, s, d⟩ k = wrapF 2 1 sf94r l ⟨m, t, s, d⟩ k := by
  intro x0 x1 m t s d k
  kernel_rfl
theorem ok94r : FunOK Tryz.prog 94 e94r := fun_ok facts mixed (I := i94r) (FnsOK.cons ok133 (FnsOK.cons ok134 FnsOK.nil)) Tryz.func94 (by kernel_rfl) (by kernel_rfl) (by kernel_rfl) (an := a94r) (by kernel_rfl) (by kernel_rfl) q94r
def sf94 : FT 2 1 := fun a0 a1 m t s d k =>
sf94r a0 a1 m t s d fun r0 m1 t1 s1 d1 =>
ifB (ifB (ifB (beq r0 0) (true) false) (beq (shiftRight m 64) (shiftRight (land (shiftRight m1 0) (mask t)) 64)) false) (k r0 m t s1 (mod d1 (pow 2 t))) <|
k r0 m1 t1 s1 d1
def e94 : FunE := ⟨[.ptr (lay 188) false false, .one (.int .u64)], [.sli ([.int .i64])], wrapF 2 1 sf94⟩
theorem q94 : AllN 2 fun l => ∀ m t s d k, resetF e94r.rs e94r.f l ⟨m, t, s, d⟩ k = wrapF 2 1 sf94 l ⟨m, t, s, d⟩ k := by
  intro x0 x1 m t s d k
  kernel_rfl
theorem ok94 : FunOK Tryz.prog 94 e94 := FunOK.wrap (FunOK.reset (ps := e94r.ps) (rs := e94r.rs) (F := e94r.f) ok94r) q94
def sf136 : FT 1 1 := fun a1 m t s d k =>
force (shiftLeft t 6) fun v2 =>
force (add t 1) fun t3 =>
okB (ble (succ t3) 4194304) <|
force (xor m (xor (shiftLeft a1 (shiftLeft t 6)) (mod (add a1 t) 2305843009213693951))) fun m4 =>
okB (ifB (beq v2 0) false (ble (succ v2) 268435456)) <|
force (add 193 (shiftLeft (shiftRight v2 6) 10)) fun v5 =>
k v5 m4 t3 s d
def e136 : FunE := ⟨[.sli ([.int .i64])], [.one .fn], wrapF 1 1 sf136⟩
def i136 : FI := ⟨4, [], [1, 2], [], []⟩
def a136 : An := (.sq .reg (.sq .reg .ret))
theorem q136 : AllN 1 fun l => ∀ m t s d k, R.denF i136 a136 (bodyOf Tryz.f136) Tryz.f136.results.toList e136.ps e136.rs l ⟨m, t, s, d⟩ k = wrapF 1 1 sf136 l ⟨m, t, s, d⟩ k := by
  intro x0 m t s d k
  kernel_rfl
theorem ok136 : FunOK Tryz.prog 136 e136 := fun_ok facts mixed (I := i136) FnsOK.nil Tryz.func136 (by kernel_rfl) (by kernel_rfl) (by kernel_rfl) (an := a136) (by kernel_rfl) (by kernel_rfl) q136
def sf137 : FT 3 0 := fun a1 a2 a3 m t s d k =>
force a3 fun v4 =>
okB (ifB (beq a1 0) false true) <|
okB (ifB (beq a1 0) false true) <|
force (xor (land (shiftRight m (add a1 640)) (mask 5)) (xor (xor (land (shiftRight m a1) 18446744073709551615) (shiftLeft a2 128)) (shiftLeft v4 192))) fun v5 =>
force (xor m (xor (shiftLeft v5 (add a1 640)) (mod (add v5 (add a1 640)) 2305843009213693951))) fun m6 =>
okB (ifB (beq a1 0) false true) <|
okB (ifB (beq a1 0) false true) <|
force (land (shiftRight m6 (add a1 960)) 18446744073709551615) fun v7 =>
force (land (shiftRight m6 (add a1 640)) (mask 5)) fun v8 =>
sf53 v7 v8 m6 t s d fun r9 r10 m11 t11 s11 d11 =>
okB (ifB (beq a1 0) false true) <|
force (land (shiftRight m11 (add a1 640)) (mask 5)) fun v12 =>
sf164 a1 v12 m11 t11 s11 d11 fun m13 t13 s13 d13 =>
k m13 t13 s13 d13
def e137 : FunE := ⟨[.ptr (lay 104) false false, .one (.int .u32), .agg (lay 44)], [], wrapF 3 0 sf137⟩
def i137 : FI := ⟨32, [5], [5], [(53, e53), (164, e164)], []⟩
def a137 : An := (.sq .reg (.sq (.drw [(0, 0), (1, 0), (2, 0), (3, 0), (4, 0), (5, 0), (6, 0), (7, 0), (8, 0), (9, 0), (10, 0), (11, 1)]) (.sq (.drw [(0, 0), (1, 0), (2, 0), (3, 0), (4, 0), (5, 0), (6, 0), (7, 0), (8, 1)]) .reg)))
theorem q137 : AllN 3 fun l => ∀ m t s d k, R.denF i137 a137 (bodyOf Tryz.f137) Tryz.f137.results.toList e137.ps e137.rs l ⟨m, t, s, d⟩ k = wrapF 3 0 sf137 l ⟨m, t, s, d⟩ k := by
  intro x0 x1 x2 m t s d k
  kernel_rfl
theorem ok137 : FunOK Tryz.prog 137 e137 := fun_ok facts mixed (I := i137) (FnsOK.cons ok53 (FnsOK.cons ok164 FnsOK.nil)) Tryz.func137 (by kernel_rfl) (by kernel_rfl) (by kernel_rfl) (an := a137) (by kernel_rfl) (by kernel_rfl) q137
def sf95 : FT 2 0 := fun a1 a2 m t s d k =>
force a1 fun v3 =>
okB (ifB (beq v3 0) false true) <|
force (land (shiftRight m (add v3 1664)) 18446744073709551615) fun v4 =>
sf91 v4 m t s d fun r5 m6 t6 s6 d6 =>
ifB (beq r5 1) (
okB (ifB (beq v3 0) false true) <|
false) <|
ifB (beq r5 2) (
force v3 fun v7 =>
sf128 v7 a2 m6 t6 s6 d6 fun r8 m9 t9 s9 d9 =>
sf136 r8 m9 t9 s9 d9 fun r10 m11 t11 s11 d11 =>
okB (beq (land r10 1023) 193) <|
force (land (shiftRight m11 (shiftLeft (land (shiftRight r10 10) 4194303) 6)) 18446744073709551615) fun v12 =>
ifB (beq (land (shiftRight v12 28) 131071) 0) (
force 0 fun v34 =>
sf57 v34 m11 t11 s11 d11 fun r35 m36 t36 s36 d36 =>
okB (ifB (ifB (beq r35 1) false true) (ifB (beq v3 0) false true) true) <|
okB (ifB (ifB (beq r35 1) false true) (ifB (beq r35 1) false true) true) <|
okB (ifB (ifB (ifB (beq r35 1) false true) (ifB (beq 0 (land (shiftRight m36 (add (add v3 640) 192)) 340282366920938463463374607431768211455)) false true) false) (ifB (beq v3 0) false true) true) <|
okB (ifB (ifB (ifB (beq r35 1) false true) (ifB (beq 0 (land (shiftRight m36 (add (add v3 640) 192)) 340282366920938463463374607431768211455)) false true) false) (ifB (ifB (beq r35 1) false true) (ifB (beq 0 (land (shiftRight m36 (add (add v3 640) 192)) 340282366920938463463374607431768211455)) false true) false) true) <|
ifB (ifB (ifB (ifB (beq r35 1) false true) (ifB (beq 0 (land (shiftRight m36 (add (add v3 640) 192)) 340282366920938463463374607431768211455)) false true) false) (ble (succ (land (shiftRight m36 (add (add v3 640) 128)) 18446744073709551615)) 4294967295) false) (
okB (ifB (beq v3 0) false true) <|
force v3 fun v37 =>
force (mod (add (land (shiftRight m36 (add (add v3 640) 128)) 18446744073709551615) 1) 4294967296) fun v38 =>
force 0 fun v39 =>
sf137 v37 v38 v39 m36 t36 s36 d36 fun m40 t40 s40 d40 =>
k m40 t40 s40 d40) <|
k m36 t36 s36 d36) <|
okB (beq (land (shiftRight v12 28) 131071) 1) <|
okB (beq (land (shiftRight d11 (shiftRight (land v12 268435455) 6)) 1) 0) <|
force (land (shiftRight m11 (land v12 268435455)) 18446744073709551615) fun v13 =>
force v3 fun v14 =>
sf121 v14 v13 m11 t11 s11 d11 fun r15 r16 m17 t17 s17 d17 =>
force r15 fun v18 =>
ifB (beq r16 1) (
force (land (shiftRight v18 64) 340282366920938463463374607431768211455) fun v19 =>
force v19 fun v20 =>
sf57 v20 m17 t17 s17 d17 fun r21 m22 t22 s22 d22 =>
okB (ifB (ifB (beq r21 1) false true) (ifB (beq v3 0) false true) true) <|
okB (ifB (ifB (beq r21 1) false true) (ifB (beq r21 1) false true) true) <|
okB (ifB (ifB (ifB (beq r21 1) false true) (ifB (beq v19 (land (shiftRight m22 (add (add v3 640) 192)) 340282366920938463463374607431768211455)) false true) false) (ifB (beq v3 0) false true) true) <|
okB (ifB (ifB (ifB (beq r21 1) false true) (ifB (beq v19 (land (shiftRight m22 (add (add v3 640) 192)) 340282366920938463463374607431768211455)) false true) false) (ifB (ifB (beq r21 1) false true) (ifB (beq v19 (land (shiftRight m22 (add (add v3 640) 192)) 340282366920938463463374607431768211455)) false true) false) true) <|
ifB (ifB (ifB (ifB (beq r21 1) false true) (ifB (beq v19 (land (shiftRight m22 (add (add v3 640) 192)) 340282366920938463463374607431768211455)) false true) false) (ble (succ (land (shiftRight m22 (add (add v3 640) 128)) 18446744073709551615)) 4294967295) false) (
okB (ifB (beq v3 0) false true) <|
force v3 fun v23 =>
force (mod (add (land (shiftRight m22 (add (add v3 640) 128)) 18446744073709551615) 1) 4294967296) fun v24 =>
force v19 fun v25 =>
sf137 v23 v24 v25 m22 t22 s22 d22 fun m26 t26 s26 d26 =>
k m26 t26 s26 d26) <|
k m22 t22 s22 d22) <|
force 0 fun v27 =>
sf57 v27 m17 t17 s17 d17 fun r28 m29 t29 s29 d29 =>
okB (ifB (ifB (beq r28 1) false true) (ifB (beq v3 0) false true) true) <|
okB (ifB (ifB (beq r28 1) false true) (ifB (beq r28 1) false true) true) <|
okB (ifB (ifB (ifB (beq r28 1) false true) (ifB (beq 0 (land (shiftRight m29 (add (add v3 640) 192)) 340282366920938463463374607431768211455)) false true) false) (ifB (beq v3 0) false true) true) <|
okB (ifB (ifB (ifB (beq r28 1) false true) (ifB (beq 0 (land (shiftRight m29 (add (add v3 640) 192)) 340282366920938463463374607431768211455)) false true) false) (ifB (ifB (beq r28 1) false true) (ifB (beq 0 (land (shiftRight m29 (add (add v3 640) 192)) 340282366920938463463374607431768211455)) false true) false) true) <|
ifB (ifB (ifB (ifB (beq r28 1) false true) (ifB (beq 0 (land (shiftRight m29 (add (add v3 640) 192)) 340282366920938463463374607431768211455)) false true) false) (ble (succ (land (shiftRight m29 (add (add v3 640) 128)) 18446744073709551615)) 4294967295) false) (
okB (ifB (beq v3 0) false true) <|
force v3 fun v30 =>
force (mod (add (land (shiftRight m29 (add (add v3 640) 128)) 18446744073709551615) 1) 4294967296) fun v31 =>
force 0 fun v32 =>
sf137 v30 v31 v32 m29 t29 s29 d29 fun m33 t33 s33 d33 =>
k m33 t33 s33 d33) <|
k m29 t29 s29 d29) <|
force 0 fun v41 =>
sf57 v41 m6 t6 s6 d6 fun r42 m43 t43 s43 d43 =>
okB (ifB (ifB (beq r42 1) false true) (ifB (beq v3 0) false true) true) <|
okB (ifB (ifB (beq r42 1) false true) (ifB (beq r42 1) false true) true) <|
okB (ifB (ifB (ifB (beq r42 1) false true) (ifB (beq 0 (land (shiftRight m43 (add (add v3 640) 192)) 340282366920938463463374607431768211455)) false true) false) (ifB (beq v3 0) false true) true) <|
okB (ifB (ifB (ifB (beq r42 1) false true) (ifB (beq 0 (land (shiftRight m43 (add (add v3 640) 192)) 340282366920938463463374607431768211455)) false true) false) (ifB (ifB (beq r42 1) false true) (ifB (beq 0 (land (shiftRight m43 (add (add v3 640) 192)) 340282366920938463463374607431768211455)) false true) false) true) <|
ifB (ifB (ifB (ifB (beq r42 1) false true) (ifB (beq 0 (land (shiftRight m43 (add (add v3 640) 192)) 340282366920938463463374607431768211455)) false true) false) (ble (succ (land (shiftRight m43 (add (add v3 640) 128)) 18446744073709551615)) 4294967295) false) (
okB (ifB (beq v3 0) false true) <|
force v3 fun v44 =>
force (mod (add (land (shiftRight m43 (add (add v3 640) 128)) 18446744073709551615) 1) 4294967296) fun v45 =>
force 0 fun v46 =>
sf137 v44 v45 v46 m43 t43 s43 d43 fun m47 t47 s47 d47 =>
k m47 t47 s47 d47) <|
k m43 t43 s43 d43
def e95 : FunE := ⟨[.ptr (lay 104) false false, .one (.int .u64)], [], wrapF 2 0 sf95⟩
def i95 : FI := ⟨71, [2, 4, 7], [2, 4, 13, 14, 16, 25, 45, 54, 61], [(57, e57), (91, e91), (121, e121), (128, e128), (135, ⟨[.ptr (lay 183) false false, .one (.int .u64)], [.agg (lay 44), .one .bool], fun _ _ _ => false⟩), (136, e136), (137, e137)], []⟩
theorem q95 : AllN 2 fun l => ∀ m t s d k, R.F95 i95 e95.ps [(0, 0), (1, 1), (2, 0), (3, 0), (4, 0), (5, 0), (6, 0), (7, 0), (8, 0), (9, 0), (10, 0), (11, 0), (12, 0), (13, 0), (14, 0), (15, 0), (16, 0), (17, 0), (18, 0), (19, 0)] [(0, 0), (1, 0), (2, 0), (3, 0), (4, 0), (5, 0), (6, 0), (7, 0), (8, 1)] l ⟨m, t, s, d⟩ k = wrapF 2 0 sf95 l ⟨m, t, s, d⟩ k := by
  intro x0 x1 m t s d k
  kernel_rfl
theorem ok95 : FunOK Tryz.prog 95 e95 := fun95_ok facts mixed (I := i95) (FnsOK.cons ok57 (FnsOK.cons ok91 (FnsOK.cons ok121 (FnsOK.cons ok128 (FnsOK.cons FunOK.dead (FnsOK.cons ok136 (FnsOK.cons ok137 FnsOK.nil))))))) (by kernel_rfl) (ps := e95.ps) (rs := e95.rs) (by kernel_rfl) rfl [(0, 0), (1, 1), (2, 0), (3, 0), (4, 0), (5, 0), (6, 0), (7, 0), (8, 0), (9, 0), (10, 0), (11, 0), (12, 0), (13, 0), (14, 0), (15, 0), (16, 0), (17, 0), (18, 0), (19, 0)] [(0, 0), (1, 0), (2, 0), (3, 0), (4, 0), (5, 0), (6, 0), (7, 0), (8, 1)] q95
def sf96 : FT 1 1 := fun a1 m t s d k =>
okB (ifB (beq a1 0) false true) <|
force (land (shiftRight m (add a1 2240)) 18446744073709551615) fun v2 =>
okB (ifB (beq a1 0) false true) <|
force (xor (land (shiftRight m (add a1 2240)) 18446744073709551615) 0) fun v3 =>
force (xor m (xor (shiftLeft v3 (add a1 2240)) (mod (add v3 (add a1 2240)) 2305843009213693951))) fun m4 =>
k v2 m4 t s d
def e96 : FunE := ⟨[.ptr (lay 104) false false], [.sli (lay 210)], wrapF 1 1 sf96⟩
def i96 : FI := ⟨12, [], [2, 3], [], []⟩
def a96 : An := (.sq .reg (.sq .reg (.sq .reg (.sq .reg .ret))))
theorem q96 : AllN 1 fun l => ∀ m t s d k, R.denF i96 a96 (bodyOf Tryz.f96) Tryz.f96.results.toList e96.ps e96.rs l ⟨m, t, s, d⟩ k = wrapF 1 1 sf96 l ⟨m, t, s, d⟩ k := by
  intro x0 m t s d k
  kernel_rfl
theorem ok96 : FunOK Tryz.prog 96 e96 := fun_ok facts mixed (I := i96) FnsOK.nil Tryz.func96 (by kernel_rfl) (by kernel_rfl) (by kernel_rfl) (an := a96) (by kernel_rfl) (by kernel_rfl) q96
def sf62 : FT 2 1 := fun a1 a2 m t s d k =>
okB (ifB (beq a1 0) false true) <|
force (land (shiftRight m (add a1 2112)) 18446744073709551615) fun v3 =>
okB (ifB (beq v3 1) true (ifB (beq v3 1) false true)) <|
ifB (ifB (beq v3 1) true (ble 4611686018427387905 a2)) (
k 0 m t s d) <|
okB (ifB (beq a1 0) false true) <|
force (xor (land (shiftRight m (add a1 2304)) 18446744073709551615) a2) fun v4 =>
force (xor m (xor (shiftLeft v4 (add a1 2304)) (mod (add v4 (add a1 2304)) 2305843009213693951))) fun m5 =>
sf87 a1 a2 m5 t s d fun m6 t6 s6 d6 =>
sf88 a1 a2 m6 t6 s6 d6 fun m7 t7 s7 d7 =>
okB (ifB (beq a1 0) false true) <|
join (fun (m8 t8 s8 d8 : Nat) =>
join (fun (m10 t10 s10 d10 : Nat) =>
sf93 a1 a2 m10 t10 s10 d10 fun m12 t12 s12 d12 =>
okB (ifB (beq a1 0) false true) <|
force (land (shiftRight m12 (add a1 1728)) 18446744073709551615) fun v13 =>
sf94 v13 a2 m12 t12 s12 d12 fun r14 m15 t15 s15 d15 =>
join (fun (m16 t16 s16 d16 : Nat) =>
sf96 a1 m16 t16 s16 d16 fun r18 m19 t19 s19 d19 =>
k r18 m19 t19 s19 d19) fun J17 =>
sf90 a1 m15 t15 s15 d15 fun r20 m21 t21 s21 d21 =>
ifB (ifB (beq r20 1) false true) (
sf95 a1 a2 m21 t21 s21 d21 fun m22 t22 s22 d22 =>
J17 m22 t22 s22 d22) <|
J17 m21 t21 s21 d21) fun J11 =>
sf90 a1 m8 t8 s8 d8 fun r23 m24 t24 s24 d24 =>
okB (ifB (ifB (beq r23 1) false true) (ifB (beq a1 0) false true) true) <|
join (fun (r25 m26 t26 s26 d26 : Nat) =>
okB (ifB (ifB (beq r23 1) false true) (ifB (beq r23 1) false true) true) <|
ifB (ifB (ifB (beq r23 1) false true) (beq r25 2) false) (
force (ifB (ifB (ble (succ a2) (land (shiftRight m7 (add a1 2048)) 18446744073709551615)) false true) 1 0) fun v28 =>
sf92 a1 a2 v28 m26 t26 s26 d26 fun m29 t29 s29 d29 =>
J11 m29 t29 s29 d29) <|
J11 m26 t26 s26 d26) fun J27 =>
ifB (ifB (beq r23 1) false true) (
force (land (shiftRight m24 (add a1 1664)) 18446744073709551615) fun v30 =>
sf91 v30 m24 t24 s24 d24 fun r31 m32 t32 s32 d32 =>
J27 r31 m32 t32 s32 d32) <|
J27 0 m24 t24 s24 d24) fun J9 =>
ifB (ifB (ble (succ a2) (land (shiftRight m7 (add a1 2048)) 18446744073709551615)) false true) (
sf89 a1 a2 m7 t7 s7 d7 fun m33 t33 s33 d33 =>
J9 m33 t33 s33 d33) <|
J9 m7 t7 s7 d7
def e62 : FunE := ⟨[.ptr (lay 104) false false, .one (.int .u64)], [.sli (lay 210)], wrapF 2 1 sf62⟩
def i62 : FI := ⟨66, [], [4, 5, 10, 13, 30, 37, 44, 60], [(87, e87), (88, e88), (89, e89), (90, e90), (91, e91), (92, e92), (93, e93), (94, e94), (95, e95), (96, e96)], []⟩
def a62 : An := (.sq .reg (.sq (.sq .reg (.cd (.sq .reg .ret) .skip)) (.sq .reg (.sq .reg (.sq .reg (.sq .reg (.sj [] (.sq .reg (.cd .reg .skip)) (.sj [] (.sq .reg (.cd .reg .skip)) (.sq .reg (.sq .reg (.sj [] (.sq .reg (.cd .reg .skip)) (.sq .reg .ret))))))))))))
theorem q62 : AllN 2 fun l => ∀ m t s d k, R.denF i62 a62 (bodyOf Tryz.f62) Tryz.f62.results.toList e62.ps e62.rs l ⟨m, t, s, d⟩ k = wrapF 2 1 sf62 l ⟨m, t, s, d⟩ k := by
  intro x0 x1 m t s d k
  kernel_rfl
theorem ok62 : FunOK Tryz.prog 62 e62 := fun_ok facts mixed (I := i62) (FnsOK.cons ok87 (FnsOK.cons ok88 (FnsOK.cons ok89 (FnsOK.cons ok90 (FnsOK.cons ok91 (FnsOK.cons ok92 (FnsOK.cons ok93 (FnsOK.cons ok94 (FnsOK.cons ok95 (FnsOK.cons ok96 FnsOK.nil)))))))))) Tryz.func62 (by kernel_rfl) (by kernel_rfl) (by kernel_rfl) (an := a62) (by kernel_rfl) (by kernel_rfl) q62
def sf24 : FT 2 1 := fun a1 a2 m t s d k =>
force a2 fun v3 =>
okB (ifB (beq a1 0) false true) <|
okB (ifB (beq a1 0) false true) <|
force (xor (land (shiftRight m (add a1 512)) 18446744073709551615) (ifB (ble (succ (mod (add (land (shiftRight m (add a1 512)) 18446744073709551615) 1) 18446744073709551616)) 2305843009213693952) (mod (add (land (shiftRight m (add a1 512)) 18446744073709551615) 1) 18446744073709551616) 2305843009213693952)) fun v4 =>
force (xor m (xor (shiftLeft v4 (add a1 512)) (mod (add v4 (add a1 512)) 2305843009213693951))) fun m5 =>
join (fun (m6 t6 s6 d6 : Nat) =>
k 0 m6 t6 s6 d6) fun J7 =>
okB (ifB (beq a1 0) false true) <|
force (land (shiftRight (land (shiftRight m5 (add a1 640)) 18446744073709551615) 28) 131071) fun v8 =>
loopN 6 (fun (_ _ _ _ _ : Nat) => false) (fun L11 (p9 m10 t10 s10 d10 : Nat) =>
ifB (ble (succ (xor p9 9223372036854775808)) (xor v8 9223372036854775808)) (
join (fun (m12 t12 s12 d12 : Nat) =>
force (mod (add p9 1) 18446744073709551616) fun v14 =>
L11 v14 m12 t12 s12 d12) fun J13 =>
okB (ifB (beq a1 0) false true) <|
okB (ble (succ p9) (land (shiftRight (land (shiftRight m10 (add a1 640)) 18446744073709551615) 28) 131071)) <|
okB (beq (land (shiftRight d10 (shiftRight (add (add (land (land (shiftRight m10 (add a1 640)) 18446744073709551615) 268435455) (mul p9 256)) 64) 6)) 1) 0) <|
force (land (shiftRight m10 (add (add (land (land (shiftRight m10 (add a1 640)) 18446744073709551615) 268435455) (mul p9 256)) 64)) 18446744073709551615) fun v15 =>
ifB (beq v15 1) (
okB (ifB (beq a1 0) false true) <|
okB (ble (succ p9) (land (shiftRight (land (shiftRight m10 (add a1 640)) 18446744073709551615) 28) 131071)) <|
okB (beq (land (shiftRight d10 (shiftRight (add (land (land (shiftRight m10 (add a1 640)) 18446744073709551615) 268435455) (mul p9 256)) 6)) 1) 0) <|
okB (ifB (beq a1 0) false true) <|
force (land (shiftRight m10 (add (land (land (shiftRight m10 (add a1 640)) 18446744073709551615) 268435455) (mul p9 256))) 18446744073709551615) fun v16 =>
force (land (shiftRight m10 (add a1 512)) 18446744073709551615) fun v17 =>
sf62 v16 v17 m10 t10 s10 d10 fun r18 m19 t19 s19 d19 =>
force (mod (add p9 1) 18446744073709551616) fun v20 =>
sf61 a1 v20 r18 m19 t19 s19 d19 fun m21 t21 s21 d21 =>
J13 m21 t21 s21 d21) <|
J13 m10 t10 s10 d10) <|
J7 m10 t10 s10 d10) 0 m5 t s d
def e24 : FunE := ⟨[.ptr (lay 65) false false, .agg (lay 46)], [.one (.int .i64)], wrapF 2 1 sf24⟩
def i24 : FI := ⟨49, [3], [4, 5, 19, 20, 21, 30], [(61, e61), (62, e62)], []⟩
def a24 : An := (.sq .reg (.sq .reg (.sj [] (.sq .reg (.bl (.lp [(20, .sh (.one (.int .i64)))] 6 (.sq .reg (.sq (.cd .skip .ex) (.sj [] (.bl (.sq .reg (.sq .reg (.cd (.drw [(0, 0), (1, 0), (2, 0), (3, 0), (4, 0), (5, 0), (6, 0), (7, 0), (8, 0), (9, 0), (10, 0), (11, 0), (12, 0), (13, 0), (14, 0), (15, 1), (16, 1)]) .skip)))) .reg)))))) (.sq .reg .ret))))
theorem q24 : AllN 2 fun l => ∀ m t s d k, R.denF i24 a24 (bodyOf Tryz.f24) Tryz.f24.results.toList e24.ps e24.rs l ⟨m, t, s, d⟩ k = wrapF 2 1 sf24 l ⟨m, t, s, d⟩ k := by
  intro x0 x1 m t s d k
  kernel_rfl
theorem ok24 : FunOK Tryz.prog 24 e24 := fun_ok facts mixed (I := i24) (FnsOK.cons ok61 (FnsOK.cons ok62 FnsOK.nil)) Tryz.func24 (by kernel_rfl) (by kernel_rfl) (by kernel_rfl) (an := a24) (by kernel_rfl) (by kernel_rfl) q24
end
end Go.Proofs.YtaekfgbfpfecdaaGreat.VM
