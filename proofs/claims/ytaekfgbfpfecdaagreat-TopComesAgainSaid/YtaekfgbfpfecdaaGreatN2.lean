/- Light operations are sound; no conditions but those that each theorem names. -/
import Derived.Test.YtaekfgbfpfecdaaGreatN1

/- Whole numbers reckoned with by the machine, as the model does; no conditions but those that each theorem names. -/
namespace Go.Proofs.YtaekfgbfpfecdaaGreat.VM
open Go
set_option linter.unusedVariables false
variable {P : Program}

theorem cond_some {α : Type} {b : Bool} {x : Option α} {y : α} (h : cond b x none = some y) : b = true ∧ x = some y := by
  cases b <;> simp_all
theorem notB_eq (b : Bool) : notB b = !b := by cases b <;> rfl
theorem blt_eq (x y : Nat) : Nat.blt x y = decide (x < y) := by
  unfold Nat.blt
  rw [Bool.eq_iff_iff]
  simp only [Nat.ble_eq, decide_eq_true_eq]
  omega
theorem ble_eq (x y : Nat) : Nat.ble x y = decide (x ≤ y) := by rw [Bool.eq_iff_iff]; simp [Nat.ble_eq]
theorem kidx_eq {a b : IntKind} (h : Nat.beq (kidx a) (kidx b) = true) : a = b := kidx_inj (Nat.eq_of_beq_eq_true h)

theorem dec_i64 (x : Nat) : decI .i64 x = if x < 9223372036854775808 then (x : Int) else (x : Int) - 18446744073709551616 := rfl
theorem dec_else {k : IntKind} (h : k ≠ .i64) (x : Nat) : decI k x = x := by cases k <;> first | rfl | exact absurd rfl h
theorem wrap_dec {k : IntKind} (hk : convOk k = true) {z : Int} {n : Nat} (hn : n < limK k) (h : (z - n) % (limK k : Int) = 0) : k.wrap z = decI k n := by
  cases k <;> simp only [convOk, Bool.false_eq_true] at hk <;> simp only [limK] at hn h <;> simp [IntKind.wrap, IntKind.signed, IntKind.bits, decI] <;> omega
theorem dec_mod {k : IntKind} (hk : convOk k = true) {x : Nat} (h : x < limK k) : (decI k x - x) % (limK k : Int) = 0 := by
  cases k <;> simp only [convOk, Bool.false_eq_true] at hk <;> simp only [limK] at h ⊢ <;> simp [decI]
  omega
theorem or63 {y : Nat} (h : y < 9223372036854775808) : 9223372036854775808 + y = 9223372036854775808 ||| y := Nat.two_pow_add_eq_or_of_lt (i := 63) h 1 |> fun e => by simpa using e
theorem xor63 {x : Nat} (h : x < 18446744073709551616) : Nat.xor x 9223372036854775808 = if x < 9223372036854775808 then x + 9223372036854775808 else x - 9223372036854775808 := by
  have e : ∀ a b, Nat.xor a b = a ^^^ b := fun _ _ => rfl
  rw [e]
  have key : ∀ y, y < 9223372036854775808 → y ^^^ 9223372036854775808 = 9223372036854775808 ||| y := by
    intro y hy
    apply Nat.eq_of_testBit_eq
    intro i
    rw [Nat.testBit_xor, Nat.testBit_or, show (9223372036854775808 : Nat) = 2 ^ 63 from by decide, Nat.testBit_two_pow]
    by_cases hi : 63 = i
    · subst hi
      have : y.testBit 63 = false := testBit_lt (k := 63) hy (Nat.le_refl _)
      simp [this]
    · simp [hi]
  split
  · next hx => rw [key x hx, ← or63 hx, Nat.add_comm]
  · next hx =>
    have hy : x - 9223372036854775808 < 9223372036854775808 := by omega
    have hx2 : x = (x - 9223372036854775808) ^^^ 9223372036854775808 := by
      rw [key _ hy, ← or63 hy]; omega
    conv => lhs; rw [hx2]
    rw [Nat.xor_assoc, Nat.xor_self, Nat.xor_zero]

theorem intLt_ok {k : IntKind} {x y : Nat} (hx : x < limK k) (hy : y < limK k) : intLt k x y = decide (decI k x < decI k y) := by
  by_cases hk : k = .i64
  · subst hk
    simp only [limK] at hx hy
    rw [Bool.eq_iff_iff, decide_eq_true_iff, dec_i64, dec_i64]
    simp only [intLt, blt_eq, xor63 hx, xor63 hy, decide_eq_true_eq]
    split <;> split <;> omega
  · rw [dec_else hk, dec_else hk]
    have : intLt k x y = Nat.blt x y := by cases k <;> first | rfl | exact absurd rfl hk
    rw [this, blt_eq, decide_eq_decide]
    omega
theorem dec_inj {k : IntKind} {x y : Nat} (hx : x < limK k) (hy : y < limK k) (h : decI k x = decI k y) : x = y := by
  by_cases hk : k = .i64
  · subst hk
    simp only [limK] at hx hy
    simp only [dec_i64] at h
    split at h <;> split at h <;> omega
  · rw [dec_else hk, dec_else hk] at h
    omega
theorem dec_beq {k : IntKind} {x y : Nat} (hx : x < limK k) (hy : y < limK k) : (decI k x == decI k y) = Nat.beq x y := by
  rw [Bool.eq_iff_iff]
  simp only [beq_iff_eq, Nat.beq_eq]
  exact ⟨fun h => dec_inj hx hy h, fun h => h ▸ rfl⟩
theorem limK_pos (k : IntKind) : 0 < limK k := by cases k <;> decide
theorem limK_le (k : IntKind) : limK k ≤ 2 ^ 64 := by cases k <;> decide

theorem RInt {N : Nm} {k : IntKind} {x : Nat} (h : x < limK k) : RSh N (.one (.int k)) x (.int k (decI k x)) :=
  ⟨Nat.lt_of_lt_of_le h (limK_le k), rfl, h⟩

theorem semInt_ok {N : Nm} {lam : Nat → Nat} {w : World} {op : BinOp} {k : IntKind} {x y : Nat} (hx : x < limK k) (hy : y < limK k) {chk : Option Bool} {ent : Ent}
    (h : semInt op k x y = some (chk, ent)) (hc : ∀ b, chk = some b → b = true) (t : TypeId) :
    ∃ v, (binOp op t (.int k (decI k x)) (.int k (decI k y))).run P w = .ok v w ∧ REnt N lam ent v := by
  have hmod : ∀ n, Nat.mod n (limK k) < limK k := fun n => Nat.mod_lt _ (limK_pos k)
  have e1 : ∀ a b, Nat.add a b = a + b := fun _ _ => rfl
  have e2 : ∀ a b, Nat.sub a b = a - b := fun _ _ => rfl
  have e3 : ∀ a b, Nat.mul a b = a * b := fun _ _ => rfl
  have e4 : ∀ a b, Nat.mod a b = a % b := fun _ _ => rfl
  cases op <;> simp only [semInt] at h
  case eql => cases h; exact ⟨_, by simp [binOp, Op.intCmp]; rfl, by simp only [REnt]; rw [dec_beq hx hy]⟩
  case neq => cases h; exact ⟨_, by simp [binOp, Op.intCmp]; rfl, by simp only [REnt, bne, notB_eq]; rw [dec_beq hx hy]⟩
  case lss => cases h; exact ⟨_, by simp [binOp, Op.intCmp]; rfl, by simp only [REnt]; rw [intLt_ok hx hy]⟩
  case gtr => cases h; exact ⟨_, by simp [binOp, Op.intCmp]; rfl, by simp only [REnt]; rw [intLt_ok hy hx]⟩
  case leq =>
    cases h
    refine ⟨_, by simp [binOp, Op.intCmp]; rfl, ?_⟩
    simp only [REnt]; rw [intLt_ok hy hx, notB_eq]
    congr 1
    rw [Bool.eq_iff_iff]; simp
  case geq =>
    cases h
    refine ⟨_, by simp [binOp, Op.intCmp]; rfl, ?_⟩
    simp only [REnt]; rw [intLt_ok hx hy, notB_eq]
    congr 1
    rw [Bool.eq_iff_iff]; simp
  case add =>
    obtain ⟨hk, h⟩ := cond_some h
    cases h
    refine ⟨_, by simp [binOp, Op.intArith]; rfl, ?_⟩
    simp only [REnt]
    rw [wrap_dec hk (hmod (Nat.add x y))]
    · exact RInt (hmod _)
    · have h1 := dec_mod hk hx
      have h2 := dec_mod hk hy
      rw [e1, e4]
      cases k <;> simp only [convOk, Bool.false_eq_true] at hk <;> simp only [limK] at h1 h2 ⊢ <;> omega
  case sub =>
    obtain ⟨hk, h⟩ := cond_some h
    cases h
    refine ⟨_, by simp [binOp, Op.intArith]; rfl, ?_⟩
    simp only [REnt]
    rw [wrap_dec hk (hmod (Nat.sub (Nat.add x (limK k)) y))]
    · exact RInt (hmod _)
    · have h1 := dec_mod hk hx
      have h2 := dec_mod hk hy
      rw [e1, e2, e4]
      cases k <;> simp only [convOk, Bool.false_eq_true] at hk <;> simp only [limK] at h1 h2 hx hy ⊢ <;> omega
  case mul =>
    obtain ⟨hk, h⟩ := cond_some h
    cases h
    refine ⟨_, by simp [binOp, Op.intArith]; rfl, ?_⟩
    simp only [REnt]
    rw [wrap_dec hk (hmod (Nat.mul x y))]
    · exact RInt (hmod _)
    · have h1 := Int.emod_eq_emod_iff_emod_sub_eq_zero.2 (dec_mod hk hx)
      have h2 := Int.emod_eq_emod_iff_emod_sub_eq_zero.2 (dec_mod hk hy)
      rw [e3, e4]
      apply Int.emod_eq_emod_iff_emod_sub_eq_zero.1
      rw [Int.mul_emod, h1, h2, ← Int.mul_emod]
      simp
  case quo =>
    cases k <;> simp only at h <;> cases h
    have hy0 : Nat.blt 0 y = true := hc _ rfl
    rw [blt_eq, decide_eq_true_eq] at hy0
    simp only [limK] at hx hy
    have e5 : Nat.div x y = x / y := rfl
    have hd : x / y < 18446744073709551616 := Nat.lt_of_le_of_lt (Nat.div_le_self _ _) hx
    refine ⟨_, by simp [binOp, Op.intDiv, decI, Nat.ne_of_gt hy0]; rfl, ?_⟩
    simp only [REnt]
    rw [wrap_dec (k := .u64) rfl (n := x / y) hd, e5]
    · exact RInt hd
    · simp
  case rem =>
    cases k <;> simp only at h <;> cases h
    case i64 =>
      have hh := hc _ rfl
      cases q1 : Nat.blt x 9223372036854775808 <;> rw [q1] at hh <;> simp only [cond_true, cond_false, Bool.false_eq_true] at hh
      cases q2 : Nat.blt y 9223372036854775808 <;> rw [q2] at hh <;> simp only [cond_true, cond_false, Bool.false_eq_true] at hh
      rw [blt_eq, decide_eq_true_eq] at q1 q2 hh
      refine ⟨_, by simp [binOp, Op.intDiv, dec_i64, q1, q2, Nat.ne_of_gt hh]; rfl, ?_⟩
      simp only [REnt]
      have e5 : Nat.mod x y = x % y := rfl
      have : ((x : Int).tmod (y : Int)) = ((x % y : Nat) : Int) := rfl
      have hl : x % y < 9223372036854775808 := Nat.lt_of_le_of_lt (Nat.mod_le _ _) q1
      rw [this, e5]
      have := RInt (N := N) (k := .i64) (x := x % y) (by simp only [limK]; omega)
      rw [dec_i64, if_pos hl] at this
      exact this
    all_goals
      have hy0 : Nat.blt 0 y = true := hc _ rfl
      rw [blt_eq, decide_eq_true_eq] at hy0
      refine ⟨_, by simp [binOp, Op.intDiv, decI, Nat.ne_of_gt hy0]; rfl, ?_⟩
      simp only [REnt]
      have e5 : Nat.mod x y = x % y := rfl
      have : ((x : Int).tmod (y : Int)) = ((x % y : Nat) : Int) := rfl
      rw [this, e5]
      exact RInt (Nat.lt_of_le_of_lt (Nat.mod_le _ _) hx)
  case or =>
    cases k <;> simp only at h <;> cases h
    simp only [limK] at hx hy
    have e5 : Nat.lor x y = x ||| y := rfl
    have hl : x ||| y < 2 ^ 64 := Nat.or_lt_two_pow (by omega) (by omega)
    refine ⟨_, by simp [binOp, Op.intBits, decI]; rfl, ?_⟩
    simp only [REnt]
    rw [e5]
    have h64 : IntKind.u64.bits = 64 := rfl
    rw [h64, Nat.mod_eq_of_lt (show x < 2 ^ 64 by omega), Nat.mod_eq_of_lt (show y < 2 ^ 64 by omega),
      wrap_dec (k := .u64) rfl (n := x ||| y) (by simp only [limK]; omega) (by simp)]
    exact RInt (by simp only [limK]; omega)
  all_goals cases h
end Go.Proofs.YtaekfgbfpfecdaaGreat.VM

/- Slots, local variables and what they stand for; operands; the facts of the program's tables that the machine leans on; no conditions but those that each theorem names. -/
namespace Go.Proofs.YtaekfgbfpfecdaaGreat.VM
open Go
set_option linter.unusedVariables false
variable {P : Program}

/-- The slots of a frame, and its own variables' blocks. -/
structure RE (N : Nm) (lam : Nat → Nat) (env : Env) (lo : Lo) (a : Act) (w : World) : Prop where
  slot : ∀ i e, getA env i = some e → ∃ v, a.tmps[i]? = some v ∧ REnt N lam e v
  grd : ∀ i s want gb e, getA env i = some (.g s want gb e) → (∃ es, getA env s = some es ∧ gval want es = some gb) ∧ ∀ s' w' g' x, e ≠ .g s' w' g' x
  blk : ∀ i l x, getA lo i = some (.blk l x) → ∃ arr ty, w.heap[lam i]? = some (.cells arr ty (0, 0)) ∧ x < 2 ^ (64 * l.length) ∧ RL N l x arr.toList
  itr : ∀ i h p, getA lo i = some (.itr h p) → ∃ bs, (StrAt N h bs ∧ p ≤ bs.length) ∧ w.heap[lam i]? = some (.stringIter ⟨bs.toArray⟩ p)
  off : ∀ i e, getA lo i = some e → ∀ b g o k mo sp, N.ln b = some (.cell g o k mo sp) → g ≠ lam i
  inj : ∀ i j e e', getA lo i = some e → getA lo j = some e' → lam i = lam j → i = j

/-- What the machine leans on in the program's tables, and in the pools of constants. -/
structure Facts (P : Program) : Prop where
  size : ∀ t, 0 < (ty t).size → (P.info? t).map (·.size) = some (ty t).size ∧ ∃ d, P.underlying t = some d ∧ d.isRow = (ty t).desc.isRow
  int : ∀ t k n, ty t = ⟨.int k, n⟩ → P.underlying t = some (.int k)
  bool : ∀ t n, ty t = ⟨.bool, n⟩ → P.underlying t = some .bool
  str : ∀ t n, ty t = ⟨.str, n⟩ → P.underlying t = some .string
  ptr : ∀ t e n, ty t = ⟨.ptr e, n⟩ → ∃ e', P.underlying t = some (.pointer e')
  sli : ∀ t e n, ty t = ⟨.sli e, n⟩ → P.underlying t = some (.slice e)
  arr : ∀ t m e n, ty t = ⟨.arr m e, n⟩ → P.underlying t = some (.array m e)
  flo : ∀ t n, ty t = ⟨.flo, n⟩ → P.underlying t = some (.float .f64)
  fn : ∀ t n, ty t = ⟨.fn, n⟩ → ∃ a b c, P.underlying t = some (.func a b c)
  st : ∀ t fs n, ty t = ⟨.st fs, n⟩ → ∃ fds, P.underlying t = some (.struct fds) ∧ fds.toList.mapM (fun f => (P.info? f.type).map fun i => (f.offset, i.size)) = some fs ∧ ∀ i o z, nthF i fs = some (o, z) →
    ∃ f, fds[i]? = some f ∧ f.offset = o ∧ (P.info? f.type).map (·.size) = some z ∧ nthN i (fieldTys t) = some f.type
  zero : ∀ t, zeroOk t = true → ∃ i z, P.info? t = some i ∧ i.zero = some z ∧ (∀ N c w, Rel N c w → RL N (lay t) 0 z.cells.toList) ∧ ((ty t).desc.isRow = true → ∃ cs, z = .agg cs)
  eq : ∀ t m, eqTy t = some m → ∀ N x y xs ys w, x < 2 ^ (64 * m.length) → y < 2 ^ (64 * m.length) → RL N m x xs → RL N m y ys →
    (∀ X Y op, (eqGuard op t X Y (.agg xs.toArray) (.agg ys.toArray)).run P w = .ok () w) ∧ (Op.equal t (.agg xs.toArray) (.agg ys.toArray)).run P w = .ok (Nat.beq x y) w
  cbin : ∀ op i j r, cBin op i j = some r → ∀ t N lam w, (∀ X Y, (eqGuard op t X Y (cstV i) (cstV j)).run P w = .ok () w) ∧ ∃ v, (binOp op t (cstV i) (cstV j)).run P w = .ok v w ∧ REnt N lam r v
  cst : ∀ i, (cstV i).oneCell' = true
  byt : ∀ t, bytesT t < 1048576 → (P.info? t).map (·.bytes) = some (bytesT t)

theorem lenK_eq : ∀ l : List K, lenK l = l.length
  | [] => rfl
  | _ :: l => by simp [lenK, lenK_eq l]
theorem takeK_eq : ∀ (n : Nat) (l : List K), takeK n l = l.take n
  | 0, l => by cases l <;> rfl
  | n + 1, [] => rfl
  | n + 1, a :: l => by simp [takeK, takeK_eq n l]
theorem dropK_eq : ∀ (n : Nat) (l : List K), dropK n l = l.drop n
  | 0, l => by cases l <;> rfl
  | n + 1, [] => rfl
  | n + 1, a :: l => by simp [dropK, dropK_eq n l]
theorem appK_eq : ∀ (l m : List K), appK l m = l ++ m
  | [], m => rfl
  | a :: l, m => by simp [appK, appK_eq l m]
theorem repK_len (l : List K) : ∀ n, (repK n l).length = n * l.length
  | 0 => by simp [repK]
  | n + 1 => by simp [repK, appK_eq, repK_len l n, Nat.succ_mul, Nat.add_comm]
theorem repK_get (l : List K) : ∀ (n i j : Nat), i < n → j < l.length → (repK n l)[i * l.length + j]? = l[j]?
  | 0, i, j, h, _ => absurd h (by omega)
  | n + 1, 0, j, _, hj => by simp [repK, appK_eq, List.getElem?_append, hj]
  | n + 1, i + 1, j, h, hj => by
    have : (i + 1) * l.length + j = l.length + (i * l.length + j) := by rw [Nat.succ_mul]; omega
    rw [repK, appK_eq, this, List.getElem?_append_right (by omega), Nat.add_sub_cancel_left]
    exact repK_get l n i j (by omega) hj

theorem getA_cons {α : Type} (j : Nat) (x : Option α) (l : List (Nat × Option α)) (i : Nat) : getA ((j, x) :: l) i = if j = i then x else getA l i := by
  simp only [getA]
  by_cases h : j = i
  · subst h; simp
  · have : Nat.beq j i = false := by rw [Bool.eq_false_iff]; intro e; exact h (Nat.eq_of_beq_eq_true e)
    simp [this, h]

theorem eval_tmp {a : Act} {t : Nat} {v : Value} (h : a.tmps[t]? = some v) : a.eval (.tmp t) = v := by
  simp only [Act.eval]
  rw [Array.getD_eq_getD_getElem?, h]; rfl

/-- The constants' pools. -/
structure Pools (N : Nm) : Prop where
  str : ∀ b h, (b, h) ∈ strPool → StrAt N h b ∧ h < 2 ^ 64

theorem bytesEq_eq : ∀ {l l' : List UInt8}, bytesEq l l' = true → l = l'
  | [], [], _ => rfl
  | [], _ :: _, h => by cases h
  | _ :: _, [], h => by cases h
  | a :: l, b :: l', h => by
    simp only [bytesEq] at h
    cases q : Nat.beq a.toNat b.toNat <;> rw [q] at h
    · cases h
    · rw [UInt8.toNat_inj.1 (Nat.eq_of_beq_eq_true q), bytesEq_eq h]
theorem findStr_mem {l : List UInt8} : ∀ {p : List (List UInt8 × Nat)} {h : Nat}, findStr l p = some h → (l, h) ∈ p
  | (b, h') :: r, h, e => by
    simp only [findStr] at e
    cases q : bytesEq l b <;> rw [q] at e
    · exact List.mem_cons_of_mem _ (findStr_mem e)
    · cases e; rw [bytesEq_eq q]; exact List.mem_cons_self
theorem natEnt_ok {N : Nm} {lam : Nat → Nat} {k : IntKind} : ∀ {z : Int} {e : Ent}, natEnt k z = some e → REnt N lam e (.int k z)
  | .ofNat n, e, h => by
    simp only [natEnt] at h
    obtain ⟨h1, h⟩ := cond_some h
    cases h
    rw [blt_eq, decide_eq_true_eq] at h1
    simp only [REnt]
    by_cases hk : k = .i64
    · subst hk
      simp only [limN] at h1
      have := RInt (N := N) (k := .i64) (x := n) (by simp only [limK]; omega)
      rw [dec_i64, if_pos h1] at this
      exact this
    · have e : limN k = limK k := by cases k <;> first | rfl | exact absurd rfl hk
      rw [e] at h1
      have := RInt (N := N) h1
      rw [dec_else hk] at this
      exact this
  | .negSucc n, e, h => by
    cases k <;> simp only [natEnt] at h <;> first | (cases h; done) | skip
    obtain ⟨h1, h⟩ := cond_some h
    cases h
    rw [blt_eq, decide_eq_true_eq] at h1
    have e1 : Nat.sub 18446744073709551615 n = 18446744073709551615 - n := rfl
    simp only [REnt]
    have := RInt (N := N) (k := .i64) (x := 18446744073709551615 - n) (by simp only [limK]; omega)
    rw [dec_i64, if_neg (by omega)] at this
    rw [e1]
    have e2 : ((18446744073709551615 - n : Nat) : Int) - 18446744073709551616 = Int.negSucc n := by omega
    rw [e2] at this
    exact this
theorem findF_mem {x : Nat} : ∀ {p : List (Nat × Nat)} {i : Nat}, findF x p = some i → (x, i) ∈ p
  | (b, i') :: r, i, e => by
    simp only [findF] at e
    cases q : Nat.beq x b <;> rw [q] at e
    · exact List.mem_cons_of_mem _ (findF_mem e)
    · cases e; rw [Nat.eq_of_beq_eq_true q]; exact List.mem_cons_self
theorem findC_mem {x y : Nat} : ∀ {p : List (Nat × Nat × Nat)} {i : Nat}, findC x y p = some i → (x, y, i) ∈ p
  | (a, b, i') :: r, i, e => by
    simp only [findC] at e
    cases q : (Nat.beq x a && Nat.beq y b) <;> rw [q] at e
    · exact List.mem_cons_of_mem _ (findC_mem e)
    · cases e
      simp only [Bool.and_eq_true] at q
      rw [Nat.eq_of_beq_eq_true q.1, Nat.eq_of_beq_eq_true q.2]; exact List.mem_cons_self
theorem flt_ok : ∀ b i, (b, i) ∈ fltPool → cstV i = .float .f64 b := by
  intro b i h
  simp only [fltPool, List.mem_cons, Prod.mk.injEq, List.not_mem_nil, or_false] at h
  rcases h with ⟨rfl, rfl⟩ | ⟨rfl, rfl⟩ | ⟨rfl, rfl⟩ <;> rfl
theorem cpx_ok : ∀ a b i, (a, b, i) ∈ cpxPool → cstV i = .complex .f64 a b := by
  intro a b i h
  simp only [cpxPool, List.mem_cons, Prod.mk.injEq, List.not_mem_nil, or_false] at h
  rcases h with ⟨rfl, rfl, rfl⟩ | ⟨rfl, rfl, rfl⟩ <;> rfl
theorem constEnt_ok {N : Nm} (hp : Pools N) {lam : Nat → Nat} {v : Value} {e : Ent} (h : constEnt v = some e) : REnt N lam e v := by
  unfold constEnt at h
  split at h
  · exact natEnt_ok h
  · cases h; rfl
  · next s =>
    cases q : findStr s.data.toList strPool with
    | none => rw [q] at h; cases h
    | some x =>
      rw [q] at h; cases h
      obtain ⟨h1, h2⟩ := hp.str _ _ (findStr_mem q)
      exact ⟨h2, _, h1, by cases s; rfl⟩
  · cases h; rfl
  · cases h; rfl
  · cases h; rfl
  · next b =>
    cases q : findF b fltPool with
    | none => rw [q] at h; cases h
    | some x => rw [q] at h; cases h; exact (flt_ok _ _ (findF_mem q)).symm
  · next a b =>
    cases q : findC a b cpxPool with
    | none => rw [q] at h; cases h
    | some x => rw [q] at h; cases h; exact (cpx_ok _ _ _ (findC_mem q)).symm
  · cases h

theorem rawO_ok {N : Nm} (hp : Pools N) {lam : Nat → Nat} {env : Env} {lo : Lo} {a : Act} {w : World} (hE : RE N lam env lo a w) {x : Operand} {e : Ent} (h : rawO env x = some e) :
    REnt N lam e (a.eval x) := by
  cases x with
  | tmp t =>
    obtain ⟨v, h1, h2⟩ := hE.slot t e h
    rw [eval_tmp h1]; exact h2
  | const v => exact constEnt_ok hp h
  | global g => cases h
  | func f =>
    simp only [rawO] at h
    split at h
    · next hcap =>
      obtain ⟨h1, h⟩ := cond_some h
      cases h
      rw [blt_eq, decide_eq_true_eq] at h1
      refine ⟨Nat.lt_of_lt_of_le (Nat.succ_lt_succ h1) (by decide), .inr ⟨f, #[], ?_, rfl, by simp [hcap], ?_⟩⟩
      · have : Nat.land (Nat.succ f) 1023 = (f + 1) &&& (2 ^ 10 - 1) := rfl
        rw [this, Nat.and_two_pow_sub_one_eq_mod]; omega
      · intro i hi; rw [hcap] at hi; simp at hi
    · cases h
theorem evO_raw {env : Env} {x : Operand} {e : Ent} (h : evO env x = some e) : rawO env x = some e ∧ ∀ s w g e', e ≠ .g s w g e' := by
  unfold evO at h
  split at h
  · cases h
  · next hn =>
    refine ⟨h, fun s w g e' he => ?_⟩
    subst he
    exact hn _ _ _ _ h
theorem evO_ok {N : Nm} (hp : Pools N) {lam : Nat → Nat} {env : Env} {lo : Lo} {a : Act} {w : World} (hE : RE N lam env lo a w) {x : Operand} {e : Ent} (h : evO env x = some e) :
    REnt N lam e (a.eval x) := rawO_ok hp hE (evO_raw h).1
theorem asB_ok {N : Nm} {lam : Nat → Nat} {e : Ent} {b : Bool} {v : Value} (h : asB e = some b) (hv : REnt N lam e v) : v = .bool b := by
  unfold asB at h
  split at h
  · cases h; exact hv
  · cases h; exact hv.2.1
  · cases h
end Go.Proofs.YtaekfgbfpfecdaaGreat.VM

/- Loads and addresses: what the machine reckons is what the model does; no conditions but those that each theorem names. -/
namespace Go.Proofs.YtaekfgbfpfecdaaGreat.VM
open Go
set_option linter.unusedVariables false
variable {P : Program}

theorem shl6 (o : Nat) : Nat.shiftLeft o 6 = 64 * o := by
  have : Nat.shiftLeft o 6 = o <<< 6 := rfl
  rw [this, Nat.shiftLeft_eq]; omega
theorem shr6 (x : Nat) : Nat.shiftRight x 6 = x / 64 := by
  have : Nat.shiftRight x 6 = x >>> 6 := rfl
  rw [this, Nat.shiftRight_eq_div_pow]
theorem deadBits_ok {d x n : Nat} (h : Nat.beq (deadBits d x n) 0 = true) : ∀ j, j < n → d.testBit (x / 64 + j) = false := by
  intro j hj
  have h0 := Nat.eq_of_beq_eq_true h
  have e1 : Nat.sub (Nat.shiftLeft 1 n) 1 = 2 ^ n - 1 := by
    have : Nat.sub (Nat.shiftLeft 1 n) 1 = 1 <<< n - 1 := rfl
    rw [this, Nat.shiftLeft_eq, Nat.one_mul]
  have e2 : deadBits d x n = (d >>> (x / 64)) % 2 ^ n := by
    rw [← Nat.and_two_pow_sub_one_eq_mod, ← e1, ← shr6]; rfl
  have h1 : ((d >>> (x / 64)) % 2 ^ n).testBit j = false := by rw [← e2, h0]; exact Nat.zero_testBit j
  rw [Nat.testBit_mod_two_pow, Nat.testBit_shiftRight] at h1
  simpa [hj] using h1
theorem ptrChk_ok {d : Nat} {mo nn : Bool} {x n : Nat} (h : ∀ b, ptrChk d mo nn x n = some b → b = true) (hn : nn = true → x ≠ 0) :
    x ≠ 0 ∧ (mo = true → ∀ j, j < n → d.testBit (x / 64 + j) = false) := by
  cases mo <;> cases nn <;> simp only [ptrChk] at h
  · have := h _ rfl
    rw [notB_eq, Bool.not_eq_true'] at this
    exact ⟨(fun e => by rw [e] at this; cases this), (fun e => by cases e)⟩
  · exact ⟨hn rfl, fun e => by cases e⟩
  · have := h _ rfl
    cases q : Nat.beq x 0 <;> rw [q] at this
    · exact ⟨(fun e => by rw [e] at q; cases q), fun _ => deadBits_ok this⟩
    · cases this
  · exact ⟨hn rfl, fun _ => deadBits_ok (h _ rfl)⟩
theorem entK_ok {N : Nm} {lam : Nat → Nat} {k : K} {fl : Bool} {x : Nat} {v : Value} (hx : x < 2 ^ 64) (h : RK N k x v) : REnt N lam (entK k fl x) v := by
  cases k <;> simp only [entK, REnt, RSh] <;> simp only [RK] at h
  case ptr => exact ⟨hx, h, fun e => by cases e⟩
  case sli => exact ⟨hx, h⟩
  case cst => exact h.1
  all_goals exact ⟨hx, by simpa only [RK] using h⟩
theorem entLay_row {l : List K} {fl : Bool} {x : Nat} {r : Ent} (h : entLay true l fl x = some r) : r = .n (.agg l) fl x := by cases h; rfl
theorem entLay_one {l : List K} {fl : Bool} {x : Nat} {r : Ent} (h : entLay false l fl x = some r) : ∃ k, l = [k] ∧ r = entK k fl x := by
  cases l with
  | nil => cases h
  | cons k l => cases l with
    | nil => cases h; exact ⟨k, rfl, rfl⟩
    | cons => cases h

/-- A load out of a block whose cells are known. -/
theorem load_arr {w : World} {g o n : Nat} {arr : Array Value} {ty : TypeId} {fz : Nat × Nat} (hw : w.heap[g]? = some (.cells arr ty fz)) (ho : o + n ≤ arr.size) (hn : 0 < n)
    {t : TypeId} {d : TypeDesc} (hu : P.underlying t = some d) (hi : (P.info? t).map (·.size) = some n) :
    (d.isRow = true → (Instr.loadAt t (.pointer (some ⟨g, o, none⟩))).run P w = .ok (.agg ((arr.toList.drop o).take n).toArray) w) ∧
    (d.isRow = false → ∃ v, arr[o]? = some v ∧ (Instr.loadAt t (.pointer (some ⟨g, o, none⟩))).run P w = .ok v w) := by
  constructor
  · intro hd
    obtain ⟨hlen, hget⟩ := arr_slice (arr := arr) (o := o) (n := n) ho
    have hc2 : w.rangeAt g o ((arr.toList.drop o).take n) := by
      intro i u hu
      have hin : i < n := by
        have := (List.getElem?_eq_some_iff.1 hu).1
        omega
      rw [hget i hin] at hu
      simp [World.cell?, hw, hu]
    exact run_loadAt_mid w g o t _ d hc2 hu hd (by rw [hi, hlen])
  · intro hd
    have hin : o < arr.size := by omega
    refine ⟨arr[o], by simp [hin], ?_⟩
    have hagg : (isAgg t).run P w = .ok false w := by
      unfold isAgg
      rw [Sem.run_bind, run_underlying hu w]
      cases d <;> simp_all
    have hc : w.cell? ⟨g, o, none⟩ = some arr[o] := by simp [World.cell?, hw, hin]
    simp [Instr.loadAt, Instr.sureAddr, loadVar, hagg, hc]

theorem partOf_lt {L : List K} {y o n : Nat} (hy : y < 2 ^ (64 * L.length)) : partOf L y o n < 2 ^ (64 * n) := by
  unfold partOf
  cases q : (Nat.beq o 0 && Nat.beq n (lenK L))
  · exact rd_lt _ _ _
  · simp only [Bool.and_eq_true] at q
    have := Nat.eq_of_beq_eq_true q.2
    rw [lenK_eq] at this
    subst this; exact hy
theorem lane_partOf {L : List K} {y o n j : Nat} (hj : j < n) : lane (partOf L y o n) j = lane y (o + j) := by
  unfold partOf
  cases q : (Nat.beq o 0 && Nat.beq n (lenK L))
  · simp only [cond_false]
    rw [shl6, lane_rd, if_pos hj]
  · simp only [Bool.and_eq_true] at q
    have := Nat.eq_of_beq_eq_true q.1
    subst this
    simp
theorem RL.part {N : Nm} {L : List K} {y : Nat} {vs : List Value} (h : RL N L y vs) {o n : Nat} {x : Nat} (hx : ∀ j, j < n → lane x j = lane y (o + j)) (ho : o + n ≤ L.length) :
    RL N ((L.drop o).take n) x ((vs.drop o).take n) := by
  have hl := h.1
  refine ⟨by simp; omega, ?_⟩
  intro j h1 h2
  have hj : j < n := by simp at h1; omega
  have := h.2 (o + j) (by omega) (by omega)
  rw [hx j hj]
  simpa using this

theorem semLoad_ok (hF : Facts P) {N : Nm} {lam : Nat → Nat} {env : Env} {lo : Lo} {a : Act} {w : World} {c : Core} (hR : Rel N c w) (hE : RE N lam env lo a w) {t : Nat} {e : Ent} {u : Value}
    (hv : REnt N lam e u) {chk : Option Bool} {ent : Ent} (h : semLoad t e lo c = some (chk, ent)) (hc : ∀ b, chk = some b → b = true) :
    ∃ v, (Instr.loadAt t u).run P w = .ok v w ∧ REnt N lam ent v := by
  unfold semLoad at h
  have hsz := hF.size t
  generalize ty t = r at h hsz
  obtain ⟨d, n⟩ := r
  simp only at h hsz
  split at h
  · next l mo nn fl x =>
    obtain ⟨h1, h⟩ := cond_some h
    simp only [Bool.and_eq_true] at h1
    have hn := Nat.eq_of_beq_eq_true h1.1
    rw [lenK_eq] at hn
    have hpos := h1.2
    rw [blt_eq, decide_eq_true_eq] at hpos
    obtain ⟨hi, d', hu, hd'⟩ := hsz hpos
    simp only [REnt, RSh] at hv
    obtain ⟨hx64, hp, hnn⟩ := hv
    cases q : entLay d.isRow l false (rd c.m x n) with
    | none => rw [q] at h; cases h
    | some r =>
      rw [q] at h
      cases h
      obtain ⟨hx0, hal⟩ := ptrChk_ok hc hnn
      subst hn
      obtain ⟨q1, q2⟩ := load_ptr hR hp hx0 hpos hal hu hi
      cases hrow : d.isRow with
      | true =>
        rw [hrow] at q hd'
        obtain ⟨vs, hr, hl⟩ := q1 hd'
        rw [entLay_row q]
        exact ⟨_, hr, rd_lt _ _ _, vs, rfl, hl⟩
      | false =>
        rw [hrow] at q hd'
        obtain ⟨k, hk, rfl⟩ := entLay_one q
        obtain ⟨v, hr, k', hk', hrk⟩ := q2 hd'
        subst hk
        cases hk'
        exact ⟨v, hr, entK_ok (by simpa using rd_lt c.m x 1) hrk⟩
  · next i l o =>
    obtain ⟨h1, h⟩ := cond_some h
    simp only [Bool.and_eq_true] at h1
    have hn := Nat.eq_of_beq_eq_true h1.1
    rw [lenK_eq] at hn
    have hpos := h1.2
    rw [blt_eq, decide_eq_true_eq] at hpos
    obtain ⟨hi, d', hu, hd'⟩ := hsz hpos
    simp only [REnt] at hv
    subst hv
    cases ql : locOf lo i with
    | none => rw [ql] at h; cases h
    | some Ly =>
      obtain ⟨L, y⟩ := Ly
      rw [ql] at h
      simp only at h
      obtain ⟨h2, h⟩ := cond_some h
      have hl := beqKs_eq h2
      rw [takeK_eq, dropK_eq] at hl
      have hg : getA lo i = some (.blk L y) := by
        unfold locOf at ql
        split at ql
        · next hq => cases ql; exact hq
        · cases ql
      obtain ⟨arr, ty', hw, hy, hrl⟩ := hE.blk _ _ _ hg
      have hoL : o + n ≤ L.length := by
        have := congrArg List.length hl
        simp at this
        omega
      have harr : arr.toList.length = arr.size := rfl
      have hLa := hrl.1
      obtain ⟨q1, q2⟩ := load_arr (P := P) (o := o) (n := n) hw (by omega) hpos hu hi
      cases q : entLay d.isRow l false (partOf L y o n) with
      | none => rw [q] at h; cases h
      | some r =>
        rw [q] at h
        cases h
        have hpart := hrl.part (o := o) (n := n) (x := partOf L y o n) (fun j hj => lane_partOf hj) hoL
        rw [← hl] at hpart
        cases hrow : d.isRow with
        | true =>
          rw [hrow] at q hd'
          rw [entLay_row q]
          refine ⟨_, q1 hd', ?_, _, rfl, by simpa using hpart⟩
          rw [hn] at *
          exact partOf_lt hy
        | false =>
          rw [hrow] at q hd'
          obtain ⟨k, hk, rfl⟩ := entLay_one q
          obtain ⟨v, hv, hr⟩ := q2 hd'
          refine ⟨v, hr, ?_⟩
          have hn1 : n = 1 := by rw [hn, hk]; rfl
          subst hn1
          have hlt : partOf L y o 1 < 2 ^ 64 := by simpa using partOf_lt (o := o) (n := 1) hy
          have h0 := hpart.2 0 (by rw [hk]; simp) (by simp; omega)
          simp only [hk, List.getElem_cons_zero] at h0
          rw [lane_one hlt] at h0
          refine entK_ok hlt ?_
          have hv2 : ((arr.toList.drop o).take 1)[0]? = some v := by
            rw [(arr_slice (arr := arr) (o := o) (n := 1) (by omega)).2 0 (by omega)]
            simpa using hv
          rw [List.getElem?_eq_getElem (by simp; omega)] at hv2
          rw [← Option.some.inj hv2]
          exact h0
  · cases h
end Go.Proofs.YtaekfgbfpfecdaaGreat.VM

/- Addresses of fields and elements, parts of slices, strings and arrays: what the machine reckons is what the model does; no conditions but those that each theorem names. -/
namespace Go.Proofs.YtaekfgbfpfecdaaGreat.VM
open Go
set_option linter.unusedVariables false
variable {P : Program}

theorem RP.sub {N : Nm} {l : List K} {mo : Bool} {x g o : Nat} (r : RP N l mo x g o) {o' z : Nat} (h : o' + z ≤ l.length) : RP N ((l.drop o').take z) mo (x + 64 * o') g (o + o') := by
  obtain ⟨a, rfl, hj⟩ := r
  refine ⟨a + o', by omega, fun j hl => ?_⟩
  have hj' : j < z := by simp at hl; omega
  have := hj (o' + j) (by omega)
  rw [Nat.add_assoc, Nat.add_assoc]
  simpa using this
theorem nnChk {nn : Bool} {x : Nat} (h : ∀ b, (cond nn none (some (notB (Nat.beq x 0)))) = some b → b = true) (hn : nn = true → x ≠ 0) : x ≠ 0 := by
  cases nn
  · have := h _ rfl
    rw [notB_eq, Bool.not_eq_true'] at this
    intro e; rw [e] at this; cases this
  · exact hn rfl
theorem andC_ok {a b : Option Bool} (h : ∀ x, andC a b = some x → x = true) : (∀ x, a = some x → x = true) ∧ (∀ x, b = some x → x = true) := by
  cases a with
  | none => exact ⟨(fun x e => by cases e), h⟩
  | some y =>
    cases b with
    | none => exact ⟨h, (fun x e => by cases e)⟩
    | some z =>
      have := h _ rfl
      cases y with
      | false => cases this
      | true => exact ⟨(fun x e => by cases e; rfl), (fun x e => by cases e; exact this)⟩
theorem addN_eq (x o : Nat) : addN x o = x + 64 * o := by
  unfold addN
  cases q : Nat.beq o 0
  · simp only [cond_false]
    rw [shl6]; rfl
  · have := Nat.eq_of_beq_eq_true q
    subst this; simp
theorem ptr_lt {N : Nm} {c : Core} {w : World} (hR : Rel N c w) {l : List K} {mo : Bool} {x g o : Nat} (r : RP N l mo x g o) (hl : 0 < l.length) : x + 64 * l.length ≤ 64 * c.t := by
  obtain ⟨a, rfl, hj⟩ := r
  have hin : ∃ i, N.ln (a + (l.length - 1)) = some i := by
    rcases hj (l.length - 1) (by omega) with ⟨m, sp, h, _⟩ | ⟨_, h⟩
    · exact ⟨_, h⟩
    · exact ⟨_, h⟩
  obtain ⟨i, hi⟩ := hin
  have := (hR.top _ _ hi).2
  omega

theorem semFieldAddr_ok (hF : Facts P) {N : Nm} {lam : Nat → Nat} {w : World} {c : Core} (hR : Rel N c w) {t : Nat} {e : Ent} {f : Nat} {u : Value}
    (hv : REnt N lam e u) {chk : Option Bool} {ent : Ent} (h : semFieldAddr t e f = some (chk, ent)) (hc : ∀ b, chk = some b → b = true) :
    ∃ v, (Instr.fieldAt t u f).run P w = .ok v w ∧ REnt N lam ent v := by
  unfold semFieldAddr at h
  have hst := hF.st t
  generalize ty t = r at h hst
  obtain ⟨d, n⟩ := r
  cases d <;> simp only at h <;> first | (cases h; done) | skip
  next fs =>
  obtain ⟨fds, hu, _, hfs⟩ := hst _ _ rfl
  cases q : nthF f fs with
  | none => rw [q] at h; cases h
  | some oz =>
    obtain ⟨o, z⟩ := oz
    rw [q] at h
    simp only at h
    obtain ⟨fd, hfd, ho, hi, _⟩ := hfs _ _ _ q
    have hrun : ∀ g o1, 0 < z → (Instr.fieldAt t (.pointer (some ⟨g, o1, none⟩)) f).run P w = .ok (.pointer (some ⟨g, o1 + o, none⟩)) w := by
      intro g o1 hz
      cases hq : P.info? fd.type with
      | none => simp [hq] at hi
      | some i =>
        have hs : i.size = z := by simpa [hq] using hi
        simp [Instr.fieldAt, run_underlying hu w, hfd, Instr.sureAddr, fieldPlace, sizeOf, typeInfo, hq, hs, Nat.ne_of_gt hz, ho, add_at]
    split at h
    · next l mo nn fl x =>
      obtain ⟨h1, h⟩ := cond_some h
      cases h
      simp only [Bool.and_eq_true, ble_eq, blt_eq, decide_eq_true_eq, lenK_eq] at h1
      simp only [REnt, RSh] at hv
      obtain ⟨hx64, hp, hnn⟩ := hv
      have hx0 := nnChk hc hnn
      rcases hp with ⟨h0, _⟩ | ⟨_, g, o1, rfl, r⟩
      · exact absurd h0 hx0
      have h11 : o + z ≤ l.length := h1.1
      refine ⟨_, hrun g o1 h1.2, ?_⟩
      simp only [REnt, RSh]
      rw [takeK_eq, dropK_eq, addN_eq]
      have hlt := ptr_lt hR r (by omega)
      have := hR.tl.2
      exact ⟨by omega, .inr ⟨by omega, g, o1 + o, rfl, r.sub h11⟩, fun _ => by omega⟩
    · next i l o1 =>
      obtain ⟨h1, h⟩ := cond_some h
      cases h
      simp only [Bool.and_eq_true, ble_eq, blt_eq, decide_eq_true_eq, lenK_eq] at h1
      simp only [REnt] at hv
      subst hv
      exact ⟨_, hrun _ o1 h1.2, rfl⟩
    · cases h

theorem idx_ok {N : Nm} {lam : Nat → Nat} {e : Ent} {v : Value} {i : Nat} (hv : REnt N lam e v) (h : idxOf e = some i) : ∃ k, v = .int k (decI k i) ∧ i < limK k ∧ (i < 9223372036854775808 → decI k i = i) := by
  unfold idxOf at h
  split at h
  · next k fl x =>
    cases h
    refine ⟨k, hv.2.1, hv.2.2, fun hi => ?_⟩
    by_cases hk : k = .i64
    · subst hk; rw [dec_i64, if_pos hi]
    · exact dec_else hk _
  · cases h
theorem sln_lt (x : Nat) : sln x < 131072 := by
  have : sln x = Nat.shiftRight x 28 &&& (2 ^ 17 - 1) := rfl
  rw [this, Nat.and_two_pow_sub_one_eq_mod]
  exact Nat.mod_lt _ (by omega)
theorem scp_lt (x : Nat) : scp x < 131072 := by
  have : scp x = Nat.shiftRight x 45 &&& (2 ^ 17 - 1) := rfl
  rw [this, Nat.and_two_pow_sub_one_eq_mod]
  exact Nat.mod_lt _ (by omega)
theorem slp_lt (x : Nat) : slp x < 268435456 := by
  have : slp x = x &&& (2 ^ 28 - 1) := rfl
  rw [this, Nat.and_two_pow_sub_one_eq_mod]
  exact Nat.mod_lt _ (by omega)
theorem kat_at {l : List K} {i j : Nat} (hj : j < l.length) : kat l (i * l.length + j) = l[j] := by
  unfold kat
  have : (i * l.length + j) % l.length = j := by rw [Nat.add_comm, Nat.mul_comm, Nat.add_mul_mod_self_left, Nat.mod_eq_of_lt hj]
  rw [this, List.getD_eq_getElem?_getD, List.getElem?_eq_getElem hj]; rfl

theorem arr_el {L : List K} {len z i : Nat} (hL : L = repK len (L.take z)) (hl : Nat.beq (lenK L) (Nat.mul len z) = true) (hi : i < len) :
    (L.take z).length = z ∧ i * z + z ≤ L.length ∧ (L.drop (i * z)).take z = L.take z := by
  have h1 := Nat.eq_of_beq_eq_true hl
  rw [lenK_eq] at h1
  have h2 : Nat.mul len z = len * z := rfl
  rw [h2] at h1
  have h3 : i * z + z ≤ len * z := by rw [← Nat.succ_mul]; exact Nat.mul_le_mul_right _ hi
  have h5 : (L.take z).length = z := by rw [List.length_take]; omega
  refine ⟨h5, by omega, ?_⟩
  apply List.ext_getElem?
  intro j
  rcases Nat.lt_or_ge j z with hj | hj
  · rw [List.getElem?_take_of_lt hj, List.getElem?_drop]
    have := repK_get (L.take z) len i j hi (by omega)
    rw [h5, ← hL] at this
    exact this
  · rw [List.getElem?_eq_none (by simp; omega), List.getElem?_eq_none (by omega)]

theorem semIndexAddr_ok (hF : Facts P) {N : Nm} {lam : Nat → Nat} {w : World} {c : Core} (hR : Rel N c w) {t : Nat} {e ix : Ent} {u q : Value}
    (hv : REnt N lam e u) (hq : REnt N lam ix q) {chk : Option Bool} {ent : Ent} (h : semIndexAddr t e ix = some (chk, ent)) (hc : ∀ b, chk = some b → b = true) :
    ∃ v, (Instr.indexAt t u q).run P w = .ok v w ∧ REnt N lam ent v := by
  unfold semIndexAddr at h
  have h1 := hF.sli t
  have h2 := hF.arr t
  generalize ty t = r at h h1 h2
  obtain ⟨d, n⟩ := r
  cases hix : idxOf ix with
  | none => rw [hix] at h; cases d <;> cases h
  | some i =>
    rw [hix] at h
    obtain ⟨k, rfl, hik, hdec⟩ := idx_ok hq hix
    cases d <;> simp only at h <;> first | (cases h; done) | skip
    · next el =>
      have hu := h1 _ _ rfl
      split at h
      · next l fl x =>
        obtain ⟨g1, h⟩ := cond_some h
        cases h
        simp only [Bool.and_eq_true, blt_eq, decide_eq_true_eq, lenK_eq] at g1
        have hz := Nat.eq_of_beq_eq_true g1.1
        have hi := hc _ rfl
        rw [blt_eq, decide_eq_true_eq] at hi
        have hsl := sln_lt x
        rw [hdec (by omega)]
        simp only [REnt, RSh] at hv
        rcases hv.2 with ⟨rfl, _⟩ | ⟨rfl, _⟩ | ⟨a, g, o, cp, p1, p2, rfl, p4, p5, pb, p6, p7, p8⟩
        · exact absurd hi (by rw [show sln 0 = 0 from by decide]; omega)
        · exact absurd hi (by rw [show sln 9223372036854775808 = 0 from by decide]; omega)
        · have hsz := (hF.size el (by omega)).1
          refine ⟨.pointer (some ⟨g, o + i * l.length, none⟩), ?_, ?_⟩
          · cases hq : P.info? el with
            | none => simp [hq] at hsz
            | some inf =>
              have hs : inf.size = l.length := by simpa [hq, hz] using hsz
              simp [Instr.indexAt, asIntOf, run_underlying hu w, sizeOf, typeInfo, hq, hs, hi, add_at]
          · have e1 : ∀ A B, Nat.add A B = A + B := fun _ _ => rfl
            have e2 : ∀ A B, Nat.mul A B = A * B := fun _ _ => rfl
            simp only [REnt, RSh]
            rw [shl6, e1, e2, lenK_eq, p1]
            have hile : i * l.length + l.length ≤ scp x * l.length := by
              rw [← Nat.succ_mul]; exact Nat.mul_le_mul_right _ (by omega)
            have hmul : i * (64 * l.length) = 64 * (i * l.length) := by rw [Nat.mul_left_comm]
            have hrp : RP N l true (64 * a + i * (64 * l.length)) g (o + i * l.length) := by
              refine ⟨a + i * l.length, by omega, fun j hj => ?_⟩
              have := p6 (i * l.length + j) (by omega)
              rw [kat_at hj] at this
              rw [Nat.add_assoc, Nat.add_assoc]
              rcases this with this | ⟨m, sp, this, _⟩
              · exact .inr ⟨rfl, this⟩
              · exact .inl ⟨m, sp, this, fun _ => rfl⟩
            exact ⟨by omega, .inr ⟨by omega, g, _, rfl, hrp⟩, fun _ => by omega⟩
      · cases h
    · next len el =>
      have hu := h2 _ _ _ rfl
      split at h
      · next L mo nn fl x =>
        obtain ⟨g1, h⟩ := cond_some h
        cases h
        simp only [Bool.and_eq_true, blt_eq, decide_eq_true_eq] at g1
        obtain ⟨⟨hz0, hlen2⟩, hrep⟩ := g1
        have hL := beqKs_eq hrep
        rw [takeK_eq] at hL
        obtain ⟨c1, c2⟩ := andC_ok hc
        simp only [REnt, RSh] at hv
        obtain ⟨hx64, hp, hnn⟩ := hv
        have hx0 := nnChk c1 hnn
        have hi := c2 _ rfl
        rw [blt_eq, decide_eq_true_eq] at hi
        rcases hp with ⟨h0, _⟩ | ⟨_, g, o, rfl, r⟩
        · exact absurd h0 hx0
        obtain ⟨hsz, _⟩ := hF.size el hz0
        obtain ⟨hzL, hin, hel⟩ := arr_el hL hlen2 hi
        have e1 : ∀ A B, Nat.add A B = A + B := fun _ _ => rfl
        have e2 : ∀ A B, Nat.mul A B = A * B := fun _ _ => rfl
        have hlt := ptr_lt hR r (by omega)
        have htl := hR.tl.2
        refine ⟨.pointer (some ⟨g, o + i * (ty el).size, none⟩), ?_, ?_⟩
        · rw [hdec (by have : i * 1 ≤ i * (ty el).size := Nat.mul_le_mul_left _ hz0
                       omega)]
          cases hq : P.info? el with
          | none => simp [hq] at hsz
          | some inf =>
            have hs : inf.size = (ty el).size := by simpa [hq] using hsz
            simp [Instr.indexAt, Instr.sureAddr, asIntOf, run_underlying hu w, sizeOf, typeInfo, hq, hs, hi, add_at]
        · simp only [REnt, RSh]
          rw [shl6, e1, e2, takeK_eq]
          have hmul : i * (64 * (ty el).size) = 64 * (i * (ty el).size) := by rw [Nat.mul_left_comm]
          rw [hmul, ← hel]
          have hrp := r.sub hin
          refine ⟨by omega, .inr ⟨by omega, g, _, rfl, hrp⟩, fun _ => by omega⟩
      · cases h
end Go.Proofs.YtaekfgbfpfecdaaGreat.VM

/- Elements of strings and arrays, parts of strings, slices and arrays: what the machine reckons is what the model does; no conditions but those that each theorem names. -/
namespace Go.Proofs.YtaekfgbfpfecdaaGreat.VM
open Go
set_option linter.unusedVariables false
variable {P : Program}

theorem strLen_eq (x : Nat) : strLen x = x % 65536 := by
  have : strLen x = x &&& (2 ^ 16 - 1) := rfl
  rw [this, Nat.and_two_pow_sub_one_eq_mod]
theorem strAt_eq (x : Nat) : strAt x = x / 65536 := by
  have : strAt x = x >>> 16 := rfl
  rw [this, Nat.shiftRight_eq_div_pow]
theorem bytesOf_len (s x : Nat) : (bytesOf s x).length = x % 65536 := by simp [bytesOf]
theorem bytesOf_get (s x i : Nat) (h : i < x % 65536) : (bytesOf s x)[i]? = some (UInt8.ofNat (s / 2 ^ (x / 65536 + 8 * i) % 256)) := by
  simp [bytesOf, h]

theorem run_size {t : TypeId} {inf : TypeInfo} (h : P.info? t = some inf) (w : World) : (sizeOf t).run P w = .ok inf.size w := by simp [sizeOf, typeInfo, h]
theorem run_index_arr {w : World} {t el : TypeId} {len : Nat} {inf : TypeInfo} {d : TypeDesc} (hu : P.underlying t = some (.array len el)) (hi : P.info? el = some inf) (hd : P.underlying el = some d)
    {k : IntKind} {i : Nat} (hl : i < len) (vs : Array Value) :
    (d.isRow = true → (Instr.index t (.agg vs) (.int k (i : Int))).run P w = .ok (.agg (vs.extract (i * inf.size) (i * inf.size + inf.size))) w) ∧
    (d.isRow = false → ∀ v, vs[i * inf.size]? = some v → (Instr.index t (.agg vs) (.int k (i : Int))).run P w = .ok v w) := by
  have hb : (0 : Int) ≤ (i : Int) ∧ (i : Int) < (len : Int) := by omega
  have hagg : (isAgg el).run P w = .ok d.isRow w := by
    unfold isAgg
    rw [Sem.run_bind, run_underlying hd w]
    cases d <;> simp
  constructor
  · intro hr
    rw [hr] at hagg
    unfold Instr.index asIntOf
    simp only [Sem.run_bind, Sem.run_pure, Result.andThen_ok, run_underlying hu w]
    rw [if_pos hb]
    simp only [Sem.run_bind, Result.andThen_ok, run_size hi w, part, hagg, if_true, Sem.run_pure, Int.toNat_natCast]
  · intro hr v hv
    rw [hr] at hagg
    unfold Instr.index asIntOf
    simp only [Sem.run_bind, Sem.run_pure, Result.andThen_ok, run_underlying hu w]
    rw [if_pos hb]
    simp only [Sem.run_bind, Result.andThen_ok, run_size hi w, part, hagg, Bool.false_eq_true, if_false, Int.toNat_natCast, hv, Sem.run_pure]

theorem semIndex_ok (hF : Facts P) {N : Nm} {lam : Nat → Nat} {w : World} {c : Core} (hR : Rel N c w) {t : Nat} {e ix : Ent} {u q : Value}
    (hv : REnt N lam e u) (hq : REnt N lam ix q) {chk : Option Bool} {ent : Ent} (h : semIndex t e ix c = some (chk, ent)) (hc : ∀ b, chk = some b → b = true) :
    ∃ v, (Instr.index t u q).run P w = .ok v w ∧ REnt N lam ent v := by
  unfold semIndex at h
  have h1 := hF.str t
  have h2 := hF.arr t
  generalize ty t = r at h h1 h2
  obtain ⟨d, n⟩ := r
  cases hix : idxOf ix with
  | none => rw [hix] at h; cases d <;> cases h
  | some i =>
    rw [hix] at h
    obtain ⟨k, rfl, hik, hdec⟩ := idx_ok hq hix
    cases d <;> simp only at h <;> first | (cases h; done) | skip
    · have hu := h1 _ rfl
      split at h
      · next fl x =>
        cases h
        have hi := hc _ rfl
        rw [blt_eq, decide_eq_true_eq, strLen_eq] at hi
        simp only [REnt, RSh, RK] at hv
        obtain ⟨_, l, hl, rfl⟩ := hv
        obtain rfl := hR.bytes hl
        have hg : (⟨(bytesOf c.s x).toArray⟩ : ByteArray)[i]? = some (UInt8.ofNat (c.s / 2 ^ (x / 65536 + 8 * i) % 256)) := by
          have hb := bytesOf_get c.s x i hi
          have hlt : i < (bytesOf c.s x).length := by rw [bytesOf_len]; exact hi
          rw [List.getElem?_eq_getElem hlt] at hb
          have hs : i < (⟨(bytesOf c.s x).toArray⟩ : ByteArray).size := by simpa [ByteArray.size] using hlt
          rw [getElem?_pos (⟨(bytesOf c.s x).toArray⟩ : ByteArray) i hs]
          exact hb
        refine ⟨.int .u8 ((UInt8.ofNat (c.s / 2 ^ (x / 65536 + 8 * i) % 256)).toNat : Int), ?_, ?_⟩
        · rw [hdec (by omega)]
          simp [Instr.index, asIntOf, run_underlying hu w, hg]
        · have e1 : Nat.land (Nat.shiftRight c.s (Nat.add (strAt x) (Nat.shiftLeft i 3))) 255 = c.s / 2 ^ (x / 65536 + 8 * i) % 256 := by
            have e2 : Nat.shiftLeft i 3 = 8 * i := by
              have : Nat.shiftLeft i 3 = i <<< 3 := rfl
              rw [this, Nat.shiftLeft_eq]; omega
            have e3 : Nat.land (Nat.shiftRight c.s (Nat.add (strAt x) (Nat.shiftLeft i 3))) 255 = (c.s >>> (strAt x + Nat.shiftLeft i 3)) &&& (2 ^ 8 - 1) := rfl
            rw [e3, e2, strAt_eq, Nat.and_two_pow_sub_one_eq_mod, Nat.shiftRight_eq_div_pow]
          have e4 : (UInt8.ofNat (c.s / 2 ^ (x / 65536 + 8 * i) % 256)).toNat = c.s / 2 ^ (x / 65536 + 8 * i) % 256 := by
            rw [UInt8.toNat_ofNat']; omega
          simp only [REnt]
          rw [e1, e4]
          have hm : c.s / 2 ^ (x / 65536 + 8 * i) % 256 < limK .u8 := Nat.mod_lt _ (by omega)
          exact RInt hm
      · cases h
    · next len el =>
      have hu := h2 _ _ _ rfl
      split at h
      · next L fl x =>
        obtain ⟨g1, h⟩ := cond_some h
        simp only [Bool.and_eq_true, blt_eq, decide_eq_true_eq] at g1
        obtain ⟨⟨⟨hz0, hlb⟩, hlen2⟩, hrep⟩ := g1
        have hL := beqKs_eq hrep
        rw [takeK_eq] at hL
        cases hel : entLay (ty el).desc.isRow (takeK (ty el).size L) false (rd x (Nat.mul i (Nat.shiftLeft (ty el).size 6)) (ty el).size) with
        | none => rw [hel] at h; cases h
        | some r =>
          rw [hel] at h
          cases h
          have hi := hc _ rfl
          rw [blt_eq, decide_eq_true_eq] at hi
          obtain ⟨hzL, hin, heq⟩ := arr_el hL hlen2 hi
          simp only [REnt, RSh] at hv
          obtain ⟨hxlt, vs, rfl, hrl⟩ := hv
          obtain ⟨hsz, d', hu', hd'⟩ := hF.size el hz0
          have e2 : Nat.mul i (Nat.shiftLeft (ty el).size 6) = 64 * (i * (ty el).size) := by
            rw [shl6]; show i * (64 * (ty el).size) = _; rw [Nat.mul_left_comm]
          rw [e2, takeK_eq] at hel
          have hpart := hrl.part (o := i * (ty el).size) (n := (ty el).size) (x := rd x (64 * (i * (ty el).size)) (ty el).size) (fun j hj => by rw [lane_rd, if_pos hj]) hin
          rw [heq] at hpart
          have hvs : vs.size = L.length := hrl.1
          have hdi : decI k i = i := hdec (by omega)
          cases hq : P.info? el with
          | none => simp [hq] at hsz
          | some inf =>
            have hs : inf.size = (ty el).size := by simpa [hq] using hsz
            cases hrow : (ty el).desc.isRow with
            | true =>
              rw [hrow] at hel hd'
              rw [entLay_row hel]
              refine ⟨.agg (vs.extract (i * (ty el).size) (i * (ty el).size + (ty el).size)), ?_, rd_lt _ _ _ |> fun h => by rw [hzL]; exact h, _, rfl, ?_⟩
              · rw [hdi, ← hs]
                exact (run_index_arr hu hq hu' hi vs).1 hd'
              · have : (vs.extract (i * (ty el).size) (i * (ty el).size + (ty el).size)).toList = (vs.toList.drop (i * (ty el).size)).take (ty el).size := by
                  rw [Array.toList_extract, List.extract_eq_take_drop, Nat.add_sub_cancel_left]
                rw [this]; exact hpart
            | false =>
              rw [hrow] at hel hd'
              obtain ⟨kk, hk, rfl⟩ := entLay_one hel
              have hz1 : (ty el).size = 1 := by rw [← hzL, hk]; rfl
              rw [hz1] at hpart hin hk hs
              rw [hz1]
              have hiv : i * 1 < vs.size := by omega
              refine ⟨vs[i * 1], ?_, ?_⟩
              · rw [hdi]
                refine (run_index_arr hu hq hu' hi vs).2 hd' _ ?_
                rw [hs]; simp
              · have hlt : rd x (64 * (i * 1)) 1 < 2 ^ 64 := by simpa using rd_lt x (64 * (i * 1)) 1
                refine entK_ok hlt ?_
                have h0 := hpart.2 0 (by rw [hk]; simp) (by simp; omega)
                simp only [hk, List.getElem_cons_zero] at h0
                rw [lane_one hlt] at h0
                have e : ((vs.toList.drop (i * 1)).take 1)[0]? = vs[i * 1]? := (arr_slice (arr := vs) (o := i * 1) (n := 1) (by omega)).2 0 (by omega)
                rw [List.getElem?_eq_getElem (by simp; omega), Array.getElem?_eq_getElem hiv] at e
                rw [← Option.some.inj e]
                exact h0
      · cases h
end Go.Proofs.YtaekfgbfpfecdaaGreat.VM

/- Slices cut: what the machine reckons is what the model does; no conditions but those that each theorem names. -/
namespace Go.Proofs.YtaekfgbfpfecdaaGreat.VM
open Go
set_option linter.unusedVariables false
variable {P : Program}

theorem slp_eq (x : Nat) : slp x = x % 268435456 := by
  have : slp x = x &&& (2 ^ 28 - 1) := rfl
  rw [this, Nat.and_two_pow_sub_one_eq_mod]
theorem sln_eq (x : Nat) : sln x = x / 268435456 % 131072 := by
  have : sln x = (x >>> 28) &&& (2 ^ 17 - 1) := rfl
  rw [this, Nat.and_two_pow_sub_one_eq_mod, Nat.shiftRight_eq_div_pow]
theorem scp_eq (x : Nat) : scp x = x / 35184372088832 % 131072 := by
  have : scp x = (x >>> 45) &&& (2 ^ 17 - 1) := rfl
  rw [this, Nat.and_two_pow_sub_one_eq_mod, Nat.shiftRight_eq_div_pow]
theorem sex_eq (x : Nat) : sex x = x / 4611686018427387904 := by
  have : sex x = x >>> 62 := rfl
  rw [this, Nat.shiftRight_eq_div_pow]
theorem shl17 (o : Nat) : Nat.shiftLeft o 17 = 131072 * o := by
  have : Nat.shiftLeft o 17 = o <<< 17 := rfl
  rw [this, Nat.shiftLeft_eq]; omega
theorem shl28 (o : Nat) : Nat.shiftLeft o 28 = 268435456 * o := by
  have : Nat.shiftLeft o 28 = o <<< 28 := rfl
  rw [this, Nat.shiftLeft_eq]; omega
theorem slmk_eq (p len cap ex : Nat) : slmk p len cap ex = p + 268435456 * (len + 131072 * (cap + 131072 * ex)) := by
  have : slmk p len cap ex = p + Nat.shiftLeft (len + Nat.shiftLeft (cap + Nat.shiftLeft ex 17) 17) 28 := rfl
  rw [this, shl17, shl17, shl28]
theorem slmk_get {p len cap ex : Nat} (hp : p < 268435456) (hl : len < 131072) (hc : cap < 131072) (he : ex ≤ 1) :
    slp (slmk p len cap ex) = p ∧ sln (slmk p len cap ex) = len ∧ scp (slmk p len cap ex) = cap ∧ sex (slmk p len cap ex) = ex ∧ slmk p len cap ex < 2 ^ 64 := by
  rw [slp_eq, sln_eq, scp_eq, sex_eq, slmk_eq]
  have : ex = 0 ∨ ex = 1 := by omega
  rcases this with rfl | rfl <;> refine ⟨?_, ?_, ?_, ?_, ?_⟩ <;> omega

def RO : Option Nat → Option Value → Prop
  | none, v => v = none
  | some n, v => ∃ k, v = some (.int k (n : Int))
theorem bounds_run {w : World} {isS : Bool} {len cap : Nat} {lo hi mx : Option Nat} {lo' hi' mx' : Option Value} (hl : RO lo lo') (hh : RO hi hi') (hm : RO mx mx')
    (h3 : mx.isSome = true → hi.isSome = true) (h0 : mx.getD cap ≤ cap) (h1 : hi.getD len ≤ mx.getD cap) (h2 : lo.getD 0 ≤ hi.getD len) :
    (Instr.sliceBounds isS len cap lo' hi' mx').run P w = .ok (lo.getD 0, hi.getD len, mx.getD cap) w := by
  cases lo <;> cases hi <;> cases mx <;> simp only [RO] at hl hh hm <;> simp only [Option.getD, Option.isSome] at h0 h1 h2 h3 ⊢
  · subst hl hh hm; simp [Instr.sliceBounds]
  · simp at h3
  · subst hl hm; obtain ⟨k, rfl⟩ := hh
    simp [Instr.sliceBounds, Instr.sliceBound, asIntOf, h1]
  · subst hl; obtain ⟨k, rfl⟩ := hh; obtain ⟨k2, rfl⟩ := hm
    simp [Instr.sliceBounds, Instr.sliceBound, asIntOf, h1, h0]
  · subst hh hm; obtain ⟨k, rfl⟩ := hl
    simp [Instr.sliceBounds, Instr.sliceBound, asIntOf, h2]
  · simp at h3
  · subst hm; obtain ⟨k, rfl⟩ := hh; obtain ⟨k2, rfl⟩ := hl
    simp [Instr.sliceBounds, Instr.sliceBound, asIntOf, h1, h2]
  · obtain ⟨k, rfl⟩ := hh; obtain ⟨k2, rfl⟩ := hl; obtain ⟨k3, rfl⟩ := hm
    simp [Instr.sliceBounds, Instr.sliceBound, asIntOf, h1, h2, h0]

/-- A slice's number, cut from 'lo' to 'h', its end left as it is. -/
def cutN (z x lo h : Nat) : Nat :=
  cond (Nat.beq (slp x) 0) x (cond (Nat.beq (scp x - lo + sex x) 0) 9223372036854775808 (slmk (slp x + lo * (64 * z)) (h - lo) (scp x - lo) (sex x)))
theorem RS.cut {N : Nm} {l : List K} {x : Nat} {v : Value} (hx : x < 2 ^ 64) (hz : 0 < l.length) (hv : RS N l x v) {el t : TypeId} {w : World} {inf : TypeInfo}
    (hu : P.underlying t = some (.slice el)) (hi : P.info? el = some inf) (hs : inf.size = l.length) {A B : Option Nat} {A' B' : Option Value} (hA : RO A A') (hB : RO B B')
    (h1 : A.getD 0 ≤ B.getD (sln x)) (h2 : B.getD (sln x) ≤ scp x) :
    ∃ u, (Instr.sliceAt t v A' B' none).run P w = .ok u w ∧ RS N l (cutN l.length x (A.getD 0) (B.getD (sln x))) u ∧ cutN l.length x (A.getD 0) (B.getD (sln x)) < 2 ^ 64 := by
  rcases hv with ⟨rfl, rfl⟩ | ⟨rfl, a, c, rfl⟩ | ⟨a, g, o, c, p1, p2, rfl, p4, p5, pb, p6, p7, p8⟩
  · have e0 : sln 0 = 0 := by decide
    have e1 : scp 0 = 0 := by decide
    rw [e0] at h1 h2; rw [e1] at h2
    have hb := bounds_run (P := P) (w := w) (isS := true) (len := 0) (cap := 0) hA hB (mx := none) (mx' := none) rfl (by simp) (by simp) (by simpa using h2) h1
    have ec : ∀ p q, cutN l.length 0 p q = 0 := fun _ _ => rfl
    rw [ec]
    refine ⟨.slice none 0 0, ?_, .inl ⟨rfl, rfl⟩, by decide⟩
    have q1 : B.getD 0 = 0 := by omega
    have q2 : A.getD 0 = 0 := by omega
    rw [q1, q2] at hb
    simp [Instr.sliceAt, Instr.slice, run_underlying hu w, hb, run_size hi w]
  · have e0 : sln 9223372036854775808 = 0 := by decide
    have e1 : scp 9223372036854775808 = 0 := by decide
    rw [e0] at h1 h2; rw [e1] at h2
    have q1 : B.getD 0 = 0 := by omega
    have q2 : A.getD 0 = 0 := by omega
    have hb := bounds_run (P := P) (w := w) (isS := true) (len := 0) (cap := c) hA hB (mx := none) (mx' := none) rfl (by simp) (by simp) (by simp; omega) h1
    rw [q1, q2] at hb
    have ec : ∀ p q, cutN l.length 9223372036854775808 p q = 9223372036854775808 := fun _ _ => rfl
    rw [ec]
    refine ⟨.slice (some a) 0 c, ?_, .inr (.inl ⟨rfl, a, c, rfl⟩), hx⟩
    by_cases hc0 : c = 0
    · subst hc0; simp [Instr.sliceAt, Instr.slice, run_underlying hu w, hb, run_size hi w]
    · simp [Instr.sliceAt, Instr.slice, run_underlying hu w, hb, run_size hi w, hc0, Addr.add]
  · have hcx : scp x ≤ c := by
      rcases (show sex x = 0 ∨ sex x = 1 by omega) with q | q
      · exact (p8 q).2.1
      · rw [p7 q]; exact Nat.le_refl _
    have hb := bounds_run (P := P) (w := w) (isS := true) (len := sln x) (cap := c) hA hB (mx := none) (mx' := none) rfl (by simp) (by simp) (by simpa using Nat.le_trans h2 hcx) h1
    generalize hlo : A.getD 0 = lo at h1 hb ⊢
    generalize hh : B.getD (sln x) = h at h1 h2 hb ⊢
    have hp0 : Nat.beq (slp x) 0 = false := by
      rw [Bool.eq_false_iff]; intro e; have := Nat.eq_of_beq_eq_true e; omega
    have hrun : (Instr.sliceAt t (.slice (some ⟨g, o, none⟩) (sln x) c) A' B' none).run P w =
        .ok (.slice (some (if c = lo then (⟨g, o, none⟩ : Addr) else ⟨g, o + lo * l.length, none⟩)) (h - lo) (c - lo)) w := by
      simp only [Instr.sliceAt, Instr.slice, Sem.run_bind, run_underlying hu w, Result.andThen_ok, hb, Option.getD_none, run_size hi w, Sem.run_pure, hs]
      congr 1
      split <;> simp [add_at]
    refine ⟨_, hrun, ?_⟩
    have hcl := scp_lt x
    unfold cutN
    rw [hp0, cond_false]
    cases q : Nat.beq (scp x - lo + sex x) 0 with
    | true =>
      have := Nat.eq_of_beq_eq_true q
      rw [cond_true]
      have : h - lo = 0 := by omega
      rw [this]
      exact ⟨.inr (.inl ⟨rfl, _, _, rfl⟩), by decide⟩
    | false =>
      rw [cond_false]
      have hne : scp x - lo + sex x ≠ 0 := fun e => by rw [e] at q; cases q
      have hmul : lo * (64 * l.length) = 64 * (lo * l.length) := by rw [Nat.mul_left_comm]
      have hsub : lo * l.length + (scp x - lo) * l.length = scp x * l.length := by
        rw [← Nat.add_mul]; congr 1; omega
      obtain ⟨g1, g2, g3, g4, g5⟩ := slmk_get (p := slp x + lo * (64 * l.length)) (len := h - lo) (cap := scp x - lo) (ex := sex x) (by omega) (by omega) (by omega) p5
      refine ⟨.inr (.inr ⟨a + lo * l.length, g, if c = lo then o else o + lo * l.length, c - lo, by rw [g1]; omega, by omega, ?_, by rw [g2, g3]; omega, by rw [g4]; exact p5, by rw [g3]; omega, ?_, ?_, ?_⟩), g5⟩
      · rw [g2]; congr 2; split <;> rfl
      · intro j hj
        rw [g3] at hj
        rw [g4]
        have hcl2 : ¬ c = lo := by
          intro e
          have : scp x - lo = 0 := by omega
          rw [this] at hj; omega
        rw [if_neg hcl2]
        have := p6 (lo * l.length + j) (by omega)
        have hk : kat l (lo * l.length + j) = kat l j := by
          unfold kat
          rw [Nat.add_comm, Nat.mul_comm, Nat.add_mul_mod_self_left]
        rw [hk] at this
        rw [Nat.add_assoc, Nat.add_assoc]
        exact this
      · intro e; rw [g4] at e; rw [g3, p7 e]
      · intro e
        rw [g4] at e
        obtain ⟨r1, r2, r3⟩ := p8 e
        have hpos : 0 < scp x - lo := by omega
        have hcl2 : ¬ c = lo := by omega
        have hm1 : 1 ≤ (scp x - lo) * l.length := Nat.mul_pos hpos hz
        have e1 : a + lo * l.length + ((scp x - lo) * l.length - 1) = a + (scp x * l.length - 1) := by omega
        have e2 : o + lo * l.length + ((scp x - lo) * l.length - 1) = o + (scp x * l.length - 1) := by omega
        have e3 : c - lo - (scp x - lo) = c - scp x := by omega
        rw [g3, e1, if_neg hcl2, e2, e3]
        exact ⟨hpos, by omega, r3⟩
end Go.Proofs.YtaekfgbfpfecdaaGreat.VM

/- Slices cut at three places, arrays and strings cut: what the machine reckons is what the model does; no conditions but those that each theorem names. -/
namespace Go.Proofs.YtaekfgbfpfecdaaGreat.VM
open Go
set_option linter.unusedVariables false
variable {P : Program}

def cutN3 (z x lo h m : Nat) : Nat := cond (Nat.beq (slp x) 0) x (slmk (slp x + lo * (64 * z)) (h - lo) (m - lo) 1)
theorem RS.cut3 {N : Nm} {l : List K} {x : Nat} {v : Value} (hx : x < 2 ^ 64) (hz : 0 < l.length) (hv : RS N l x v) {el t : TypeId} {w : World} {inf : TypeInfo}
    (hu : P.underlying t = some (.slice el)) (hi : P.info? el = some inf) (hs : inf.size = l.length) {A B : Option Nat} {m : Nat} {A' B' C' : Option Value} (hA : RO A A') (hB : RO B B') (hC : RO (some m) C')
    (hBs : B.isSome = true) (h1 : A.getD 0 ≤ B.getD (sln x)) (h2 : B.getD (sln x) ≤ m) (h3 : m ≤ scp x) :
    ∃ u, (Instr.sliceAt t v A' B' C').run P w = .ok u w ∧ RS N l (cutN3 l.length x (A.getD 0) (B.getD (sln x)) m) u ∧ cutN3 l.length x (A.getD 0) (B.getD (sln x)) m < 2 ^ 64 := by
  rcases hv with ⟨rfl, rfl⟩ | ⟨rfl, a, c, rfl⟩ | ⟨a, g, o, c, p1, p2, rfl, p4, p5, pb, p6, p7, p8⟩
  · have e0 : sln 0 = 0 := by decide
    have e1 : scp 0 = 0 := by decide
    rw [e0] at h1 h2; rw [e1] at h3
    have hb := bounds_run (P := P) (w := w) (isS := true) (len := 0) (cap := 0) hA hB hC (fun _ => hBs) (by simpa using h3) (by simpa using h2) h1
    have ec : ∀ p q r, cutN3 l.length 0 p q r = 0 := fun _ _ _ => rfl
    rw [ec]
    refine ⟨.slice none 0 0, ?_, .inl ⟨rfl, rfl⟩, by decide⟩
    have q1 : B.getD 0 = 0 := by omega
    have q2 : A.getD 0 = 0 := by omega
    have q3 : m = 0 := by omega
    rw [q1, q2, q3] at hb
    simp [Instr.sliceAt, Instr.slice, run_underlying hu w, hb, run_size hi w]
  · have e0 : sln 9223372036854775808 = 0 := by decide
    have e1 : scp 9223372036854775808 = 0 := by decide
    rw [e0] at h1 h2; rw [e1] at h3
    have q1 : B.getD 0 = 0 := by omega
    have q2 : A.getD 0 = 0 := by omega
    have q3 : m = 0 := by omega
    have hb := bounds_run (P := P) (w := w) (isS := true) (len := 0) (cap := c) hA hB hC (fun _ => hBs) (by simp; omega) (by simp; omega) h1
    rw [q1, q2, q3] at hb
    have ec : ∀ p q r, cutN3 l.length 9223372036854775808 p q r = 9223372036854775808 := fun _ _ _ => rfl
    rw [ec]
    refine ⟨.slice (some a) 0 0, ?_, .inr (.inl ⟨rfl, a, 0, rfl⟩), hx⟩
    simp [Instr.sliceAt, Instr.slice, run_underlying hu w, hb, run_size hi w]
  · have hcx : scp x ≤ c := by
      rcases (show sex x = 0 ∨ sex x = 1 by omega) with q | q
      · exact (p8 q).2.1
      · rw [p7 q]; exact Nat.le_refl _
    have hb := bounds_run (P := P) (w := w) (isS := true) (len := sln x) (cap := c) hA hB hC (fun _ => hBs) (by simp; omega) (by simpa using h2) h1
    generalize hlo : A.getD 0 = lo at h1 hb ⊢
    generalize hh : B.getD (sln x) = h at h1 h2 hb ⊢
    have hp0 : Nat.beq (slp x) 0 = false := by
      rw [Bool.eq_false_iff]; intro e; have := Nat.eq_of_beq_eq_true e; omega
    have hrun : (Instr.sliceAt t (.slice (some ⟨g, o, none⟩) (sln x) c) A' B' C').run P w =
        .ok (.slice (some (if m = lo then (⟨g, o, none⟩ : Addr) else ⟨g, o + lo * l.length, none⟩)) (h - lo) (m - lo)) w := by
      simp only [Instr.sliceAt, Instr.slice, Sem.run_bind, run_underlying hu w, Result.andThen_ok, hb, Option.getD_some, run_size hi w, Sem.run_pure, hs]
      congr 1
      split <;> simp [add_at]
    refine ⟨_, hrun, ?_⟩
    have hcl := scp_lt x
    unfold cutN3
    rw [hp0, cond_false]
    have hmul : lo * (64 * l.length) = 64 * (lo * l.length) := by rw [Nat.mul_left_comm]
    have hsub : lo * l.length + (m - lo) * l.length = m * l.length := by
      rw [← Nat.add_mul]; congr 1; omega
    have hms : m * l.length ≤ scp x * l.length := Nat.mul_le_mul_right _ h3
    obtain ⟨g1, g2, g3, g4, g5⟩ := slmk_get (p := slp x + lo * (64 * l.length)) (len := h - lo) (cap := m - lo) (ex := 1) (by omega) (by omega) (by omega) (by omega)
    refine ⟨.inr (.inr ⟨a + lo * l.length, g, if m = lo then o else o + lo * l.length, m - lo, by rw [g1]; omega, by omega, ?_, by rw [g2, g3]; omega, by rw [g4]; omega, by rw [g3]; omega, ?_, ?_, ?_⟩), g5⟩
    · rw [g2]; congr 2; split <;> rfl
    · intro j hj
      rw [g3] at hj
      rw [g4]
      have hcl2 : ¬ m = lo := by
        intro e
        have : m - lo = 0 := by omega
        rw [this] at hj; omega
      rw [if_neg hcl2]
      have := p6 (lo * l.length + j) (by omega)
      have hk : kat l (lo * l.length + j) = kat l j := by
        unfold kat
        rw [Nat.add_comm, Nat.mul_comm, Nat.add_mul_mod_self_left]
      rw [hk] at this
      rw [Nat.add_assoc, Nat.add_assoc]
      rcases this with this | ⟨q1, q2, q3, _⟩
      · exact .inl this
      · exact .inr ⟨q1, q2, q3, fun e => by cases e⟩
    · intro e; rw [g3]
    · intro e; rw [g4] at e; cases e

/-- A slice of an array. -/
theorem RP.cutArr {N : Nm} {c : Core} {w : World} (hR : Rel N c w) {L : List K} {x g o : Nat} (r : RP N L false x g o) {len el t : Nat} {z : Nat} {inf : TypeInfo} (hz : 0 < z) (hlen : len < 131072)
    (hL : L = repK len (L.take z)) (hll : Nat.beq (lenK L) (Nat.mul len z) = true) (hx : x < 134217728) (hx0 : x ≠ 0) (hlz : Nat.mul len z < 2097152)
    (hu : P.underlying t = some (.array len el)) (hi : P.info? el = some inf) (hs : inf.size = z) {A B : Option Nat} {A' B' : Option Value} (hA : RO A A') (hB : RO B B')
    (h1 : A.getD 0 ≤ B.getD len) (h2 : B.getD len ≤ len) :
    ∃ u, (Instr.sliceAt t (.pointer (some ⟨g, o, none⟩)) A' B' none).run P w = .ok u w ∧
      RS N (L.take z) (slmk (x + A.getD 0 * (64 * z)) (B.getD len - A.getD 0) (len - A.getD 0) 1) u ∧ slmk (x + A.getD 0 * (64 * z)) (B.getD len - A.getD 0) (len - A.getD 0) 1 < 2 ^ 64 := by
  have hb := bounds_run (P := P) (w := w) (isS := false) (len := len) (cap := len) hA hB (mx := none) (mx' := none) rfl (by simp) (by simp) (by simpa using h2) h1
  generalize hlo : A.getD 0 = lo at h1 hb ⊢
  generalize hh : B.getD len = h at h1 h2 hb ⊢
  have hLl : L.length = len * z := by
    have := Nat.eq_of_beq_eq_true hll
    rw [lenK_eq] at this
    exact this
  have hmulr : Nat.mul len z = len * z := rfl
  rw [hmulr] at hlz
  have hrun : (Instr.sliceAt t (.pointer (some ⟨g, o, none⟩)) A' B' none).run P w =
      .ok (.slice (some (if len = lo then (⟨g, o, none⟩ : Addr) else ⟨g, o + lo * z, none⟩)) (h - lo) (len - lo)) w := by
    simp only [Instr.sliceAt, Instr.sureAddr, Sem.run_bind, run_underlying hu w, Result.andThen_ok, hb, Option.getD_none, run_size hi w, Sem.run_pure, hs]
    congr 1
    split <;> simp [add_at]
  refine ⟨_, hrun, ?_⟩
  obtain ⟨a, rfl, hj⟩ := r
  have hmul : lo * (64 * z) = 64 * (lo * z) := by rw [Nat.mul_left_comm]
  have hlz2 : lo * z ≤ len * z := Nat.mul_le_mul_right _ (by omega)
  have hsub : lo * z + (len - lo) * z = len * z := by
    rw [← Nat.add_mul]; congr 1; omega
  obtain ⟨g1, g2, g3, g4, g5⟩ := slmk_get (p := 64 * a + lo * (64 * z)) (len := h - lo) (cap := len - lo) (ex := 1) (by omega) (by omega) (by omega) (by omega)
  have hlen1 : 0 < len → (L.take z).length = z := by
    intro hpos
    exact (arr_el (i := 0) hL hll hpos).1
  refine ⟨.inr (.inr ⟨a + lo * z, g, if len = lo then o else o + lo * z, len - lo, by rw [g1]; omega, by omega, ?_, by rw [g2, g3]; omega, by rw [g4]; omega, ?_, ?_, ?_, ?_⟩), g5⟩
  · rw [g2]; congr 2; split <;> rfl
  · rw [g3]
    rcases Nat.eq_zero_or_pos len with hl0 | hl0
    · subst hl0; simp; omega
    · rw [hlen1 hl0]; omega
  · intro j hjl
    rw [g3] at hjl
    have hl0 : 0 < len := by
      rcases Nat.eq_zero_or_pos len with hl0 | hl0
      · subst hl0; simp at hjl
      · exact hl0
    have hzl := hlen1 hl0
    rw [hzl] at hjl
    have hcl2 : ¬ len = lo := by
      intro e
      have : len - lo = 0 := by omega
      rw [this] at hjl; omega
    rw [if_neg hcl2, g4]
    have hin : lo * z + j < L.length := by omega
    rcases hj (lo * z + j) hin with ⟨m, sp, q1, q2⟩ | ⟨q1, _⟩
    · refine .inr ⟨m, sp, ?_, fun e => by cases e⟩
      have hk : L[lo * z + j] = kat (L.take z) j := by
        have e1 := repK_get (L.take z) len ((lo * z + j) / z) ((lo * z + j) % z) (by
          rw [Nat.div_lt_iff_lt_mul hz]; omega) (by rw [hzl]; exact Nat.mod_lt _ hz)
        rw [hzl, ← hL, Nat.mul_comm, Nat.div_add_mod, List.getElem?_eq_getElem hin] at e1
        have e2 : (lo * z + j) % z = j % z := by rw [Nat.add_comm, Nat.mul_comm, Nat.add_mul_mod_self_left]
        rw [e2] at e1
        unfold kat
        rw [hzl, List.getD_eq_getElem?_getD, ← e1]; rfl
      rw [hk] at q1
      rw [Nat.add_assoc, Nat.add_assoc]
      exact q1
    · cases q1
  · intro e; rw [g3]
  · intro e; rw [g4] at e; cases e
end Go.Proofs.YtaekfgbfpfecdaaGreat.VM

/- Slices cut, conversions, parts: what the machine reckons is what the model does; no conditions but those that each theorem names. -/
namespace Go.Proofs.YtaekfgbfpfecdaaGreat.VM
open Go
set_option linter.unusedVariables false
variable {P : Program}

theorem StrAt.sub {N : Nm} {x : Nat} {l : List UInt8} (h : StrAt N x l) {lo hi : Nat} (h1 : lo ≤ hi) (h2 : hi ≤ x % 65536) :
    StrAt N ((x / 65536 + 8 * lo) * 65536 + (hi - lo)) ((l.drop lo).take (hi - lo)) := by
  have hl := h.1
  have e1 : ((x / 65536 + 8 * lo) * 65536 + (hi - lo)) % 65536 = hi - lo := by omega
  have e2 : ((x / 65536 + 8 * lo) * 65536 + (hi - lo)) / 65536 = x / 65536 + 8 * lo := by omega
  have hl2 := h.2.2
  refine ⟨by rw [e1]; simp; omega, fun i hi' => ?_, by rw [e1, e2]; omega⟩
  have hlen : i < hi - lo := by simp at hi'; omega
  rw [e2]
  have := h.2.1 (lo + i) (by omega)
  rw [show x / 65536 + 8 * lo + 8 * i = x / 65536 + 8 * (lo + i) by omega, this]
  simp

theorem cut16 (p q : Nat) : Nat.add (Nat.shiftLeft p 16) q = p * 65536 + q := by
  have : Nat.shiftLeft p 16 = p <<< 16 := rfl
  rw [this, Nat.shiftLeft_eq]; rfl
theorem addOpt_eq (p z : Nat) (a : Option Nat) : addOpt p z a = p + a.getD 0 * z := by cases a <;> simp [addOpt]
theorem lenOpt_eq (n : Nat) (a b : Option Nat) : lenOpt n a b = b.getD n - a.getD 0 := by cases a <;> cases b <;> simp [lenOpt]
theorem slice_str {w : World} {s : List UInt8} {lo hi : Option Nat} {lo' hi' : Option Value} (hl : RO lo lo') (hh : RO hi hi')
    (h1 : lo.getD 0 ≤ hi.getD s.length) (h2 : hi.getD s.length ≤ s.length) {t : TypeId} (hu : P.underlying t = some .string) :
    (Instr.sliceAt t (.string ⟨s.toArray⟩) lo' hi' none).run P w = .ok (.string ⟨((s.drop (lo.getD 0)).take (hi.getD s.length - lo.getD 0)).toArray⟩) w := by
  have hsz : (⟨s.toArray⟩ : ByteArray).size = s.length := rfl
  have hex : ∀ a b : Nat, (⟨s.toArray⟩ : ByteArray).extract a b = ⟨((s.drop a).take (b - a)).toArray⟩ := by
    intro a b
    apply ByteArray.ext
    simp [ByteArray.data_extract]
  have hb := bounds_run (P := P) (w := w) (isS := false) (len := s.length) (cap := s.length) hl hh (mx := none) (mx' := none) rfl (by simp) (by simp) (by simpa using h2) h1
  simp [Instr.sliceAt, Instr.slice, run_underlying hu w, hsz, hb, hex]

/-- A bound, as the model has it. -/
theorem optN_ok {N : Nm} (hp : Pools N) {lam : Nat → Nat} {env : Env} {lo : Lo} {a : Act} {w : World} (hE : RE N lam env lo a w) {x : Option Operand} {q : Option Nat} (h : optN env x = some q)
    (hb : ∀ n, q = some n → n < 9223372036854775808) : RO q (x.map a.eval) := by
  cases x with
  | none => cases h; rfl
  | some o =>
    simp only [optN] at h
    cases he : evO env o with
    | none => rw [he] at h; cases h
    | some e =>
      rw [he] at h
      simp only at h
      cases hi : idxOf e with
      | none => rw [hi] at h; cases h
      | some n =>
        rw [hi] at h
        cases h
        obtain ⟨k, h1, h2, h3⟩ := idx_ok (evO_ok hp hE he) hi
        refine ⟨k, ?_⟩
        rw [Option.map_some, h1, h3 (hb n rfl)]

theorem condT {b c : Bool} (h : cond b c false = true) : b = true ∧ c = true := by cases b <;> simp_all

theorem semSlice_ok (hF : Facts P) {N : Nm} {lam : Nat → Nat} {w : World} {c : Core} (hR : Rel N c w) {t : Nat} {e : Ent} {A B C : Option Nat} {A' B' C' : Option Value} {u : Value}
    (hv : REnt N lam e u) (hA : (∀ n, A = some n → n < 9223372036854775808) → RO A A') (hB : (∀ n, B = some n → n < 9223372036854775808) → RO B B') (hC : (∀ n, C = some n → n < 9223372036854775808) → RO C C')
    {chk : Option Bool} {ent : Ent} (h : semSlice t e A B C = some (chk, ent)) (hc : ∀ b, chk = some b → b = true) :
    ∃ v, (Instr.sliceAt t u A' B' C').run P w = .ok v w ∧ REnt N lam ent v := by
  unfold semSlice at h
  have f1 := hF.str t
  have f2 := hF.sli t
  have f3 := hF.arr t
  generalize ty t = r at h f1 f2 f3
  obtain ⟨d, n⟩ := r
  have ea : ∀ x y, Nat.add x y = x + y := fun _ _ => rfl
  have em : ∀ x y, Nat.mul x y = x * y := fun _ _ => rfl
  have es : ∀ x y, Nat.sub x y = x - y := fun _ _ => rfl
  cases d <;> simp only at h <;> first | (cases h; done) | skip
  · have hu := f1 _ rfl
    split at h
    · next fl x =>
      cases h
      have hC0 : RO none C' := hC (by intro n e; cases e)
      simp only [RO] at hC0
      subst hC0
      simp only [REnt, RSh, RK] at hv
      obtain ⟨hx64, l, hl, rfl⟩ := hv
      have hlen := hl.1
      have hb : A.getD 0 ≤ B.getD l.length ∧ B.getD l.length ≤ l.length := by
        rw [strLen_eq] at hc
        cases A <;> cases B <;> simp only [bnds, Option.getD] at hc ⊢
        · omega
        · have := hc _ rfl; rw [ble_eq, decide_eq_true_eq] at this; omega
        · have := hc _ rfl; rw [ble_eq, decide_eq_true_eq] at this; omega
        · obtain ⟨q1, q2⟩ := condT (hc _ rfl)
          rw [ble_eq, decide_eq_true_eq] at q1 q2; omega
      have hx16 : x % 65536 < 65536 := Nat.mod_lt _ (by omega)
      have hA2 := hA (fun n e => by
        have h9 : A.getD 0 = n := by rw [e]; rfl
        omega)
      have hB2 := hB (fun n e => by
        have h9 : B.getD l.length = n := by rw [e]; rfl
        omega)
      have hrun := slice_str (P := P) (w := w) (s := l) hA2 hB2 hb.1 hb.2 hu
      refine ⟨_, hrun, ?_⟩
      have hsub := hl.sub (lo := A.getD 0) (hi := B.getD l.length) hb.1 (by omega)
      have hp1 : addOpt (strAt x) 8 A = x / 65536 + 8 * A.getD 0 := by
        rw [addOpt_eq, strAt_eq, Nat.mul_comm]
      have hp2 : lenOpt (strLen x) A B = B.getD l.length - A.getD 0 := by
        rw [lenOpt_eq, strLen_eq, hlen]
      simp only [REnt, RSh, RK]
      rw [hp1, hp2, cut16]
      refine ⟨?_, _, hsub, rfl⟩
      have h8 := hl.2.2
      omega
    · cases h
  · next el =>
    have hu := f2 _ _ rfl
    split at h
    · next l fl x =>
      obtain ⟨g1, h⟩ := cond_some h
      simp only [Bool.and_eq_true, blt_eq, decide_eq_true_eq, lenK_eq] at g1
      have hz := Nat.eq_of_beq_eq_true g1.1
      have hz0 : 0 < l.length := g1.2
      obtain ⟨hsz, _⟩ := hF.size el (by omega)
      cases hq : P.info? el with
      | none => simp [hq] at hsz
      | some inf =>
      have hs : inf.size = l.length := by simpa [hq, hz] using hsz
      simp only [REnt, RSh] at hv
      obtain ⟨hx64, hv⟩ := hv
      have hcl := scp_lt x
      have hp1 : addOpt (slp x) (Nat.shiftLeft (lenK l) 6) A = slp x + A.getD 0 * (64 * l.length) := by
        rw [addOpt_eq, shl6, lenK_eq]
      rw [hp1] at h
      cases C with
      | none =>
        simp only at h
        cases h
        obtain ⟨c1, c2⟩ := condT (hc _ rfl)
        rw [ble_eq, decide_eq_true_eq] at c1 c2
        have hC0 : RO none C' := hC (by intro n e; cases e)
        simp only [RO] at hC0
        subst hC0
        have hA2 := hA (fun n e => by
          have h9 : A.getD 0 = n := by rw [e]; rfl
          omega)
        have hB2 := hB (fun n e => by
          have h9 : B.getD (sln x) = n := by rw [e]; rfl
          omega)
        obtain ⟨v, hr, hrs, hlt⟩ := RS.cut (P := P) (w := w) hx64 hz0 hv hu hq hs hA2 hB2 c1 c2
        exact ⟨v, hr, hlt, hrs⟩
      | some m =>
        simp only at h
        obtain ⟨hBs, h⟩ := cond_some h
        cases h
        obtain ⟨c1, c2⟩ := condT (hc _ rfl)
        obtain ⟨c2, c3⟩ := condT c2
        rw [ble_eq, decide_eq_true_eq] at c1 c2 c3
        have hC2 := hC (fun n e => by cases e; omega)
        have hA2 := hA (fun n e => by
          have h9 : A.getD 0 = n := by rw [e]; rfl
          omega)
        have hB2 := hB (fun n e => by
          have h9 : B.getD (sln x) = n := by rw [e]; rfl
          omega)
        obtain ⟨v, hr, hrs, hlt⟩ := RS.cut3 (P := P) (w := w) hx64 hz0 hv hu hq hs hA2 hB2 hC2 hBs c1 c2 c3
        exact ⟨v, hr, hlt, hrs⟩
    · cases h
  · next len el =>
    have hu := f3 _ _ _ rfl
    split at h
    · next L mo nn fl x =>
      obtain ⟨g1, h⟩ := cond_some h
      cases h
      simp only [Bool.and_eq_true, blt_eq, decide_eq_true_eq, Bool.not_eq_true'] at g1
      obtain ⟨⟨⟨⟨⟨hz0, hlen⟩, hlz⟩, hll⟩, hrep⟩, rfl⟩ := g1
      have hL := beqKs_eq hrep
      rw [takeK_eq] at hL
      obtain ⟨k1, k2⟩ := andC_ok hc
      simp only [REnt, RSh] at hv
      obtain ⟨hx64, hp, hnn⟩ := hv
      have hx0 := nnChk k1 hnn
      obtain ⟨c1, c2⟩ := condT (k2 _ rfl)
      obtain ⟨c2, c3⟩ := condT c2
      rw [ble_eq, decide_eq_true_eq] at c1 c2
      rw [blt_eq, decide_eq_true_eq] at c3
      rcases hp with ⟨h0, _⟩ | ⟨_, g, o, rfl, r⟩
      · exact absurd h0 hx0
      have hC0 : RO none C' := hC (by intro n e; cases e)
      simp only [RO] at hC0
      subst hC0
      have hA2 := hA (fun n e => by
        have h9 : A.getD 0 = n := by rw [e]; rfl
        omega)
      have hB2 := hB (fun n e => by
        have h9 : B.getD len = n := by rw [e]; rfl
        omega)
      obtain ⟨hsz, _⟩ := hF.size el hz0
      cases hq : P.info? el with
      | none => simp [hq] at hsz
      | some inf =>
      have hs : inf.size = (ty el).size := by simpa [hq] using hsz
      obtain ⟨v, hr, hrs, hlt⟩ := RP.cutArr (P := P) hR r hz0 hlen hL hll c3 hx0 hlz hu hq hs hA2 hB2 c1 c2
      refine ⟨v, hr, ?_⟩
      simp only [REnt, RSh]
      rw [takeK_eq, shl6]
      exact ⟨hlt, hrs⟩
    · cases h
end Go.Proofs.YtaekfgbfpfecdaaGreat.VM

/- Comparisons, conversions, parts, closures, built-in functions: what the machine reckons is what the model does; no conditions but those that each theorem names. -/
namespace Go.Proofs.YtaekfgbfpfecdaaGreat.VM
open Go
set_option linter.unusedVariables false
variable {P : Program}

theorem semNil_ok {N : Nm} {lam : Nat → Nat} {ρ : Operand → Value} {o : Oper} {x : Operand} (ho : o.op = .nilCheck x) {w : World} {e : Ent}
    (hv : REnt N lam e (ρ x)) {chk : Option Bool} {ent : Ent} (h : semNil e = some (chk, ent)) (hc : ∀ b, chk = some b → b = true) :
    ∃ v, (execOp ρ o).run P w = .ok (.value v) w ∧ REnt N lam ent v := by
  unfold execOp
  simp only [ho]
  unfold semNil at h
  split at h
  · next l mo nn fl x' =>
    cases h
    simp only [REnt, RSh] at hv
    have hx0 := nnChk hc hv.2.2
    rcases hv.2.1 with ⟨h0, _⟩ | ⟨h0, g, o', he, r⟩
    · exact absurd h0 hx0
    · rw [he]
      exact ⟨_, rfl, hv.1, .inr ⟨h0, g, o', rfl, r⟩, fun _ => hx0⟩
  · next i l o' =>
    cases h
    simp only [REnt] at hv
    rw [hv]
    exact ⟨_, rfl, rfl⟩
  · next fl x' =>
    cases h
    have hx0 := hc _ rfl
    rw [notB_eq, Bool.not_eq_true'] at hx0
    simp only [REnt, RSh, RK] at hv
    rcases hv.2 with ⟨h0, _⟩ | ⟨g, vs, h1, he, h2⟩
    · rw [h0] at hx0; cases hx0
    · rw [he]
      refine ⟨_, rfl, ?_⟩
      exact ⟨hv.1, .inr ⟨g, vs, h1, rfl, h2⟩⟩
  · cases h

theorem semUn_ok {N : Nm} {lam : Nat → Nat} {w : World} {op : UnOp} {e : Ent} {u : Value} (hv : REnt N lam e u) {chk : Option Bool} {ent : Ent} (h : semUn op e = some (chk, ent)) :
    ∃ v, (Op.unary op u).run P w = .ok v w ∧ REnt N lam ent v := by
  unfold semUn at h
  split at h
  · next x hb =>
    cases h
    rw [asB_ok hb hv]
    exact ⟨.bool (!x), by simp [Op.unary], by simp only [REnt, notB_eq]⟩
  · cases h

theorem semConv_ok (hF : Facts P) {N : Nm} {lam : Nat → Nat} {w : World} {s d : Nat} {e : Ent} {u : Value} (hv : REnt N lam e u) {chk : Option Bool} {ent : Ent} (h : semConv s d e = some (chk, ent)) (hc : ∀ b, chk = some b → b = true) :
    ∃ v, (convert s d u).run P w = .ok v w ∧ REnt N lam ent v := by
  unfold semConv at h
  have h0 := cond_some h
  clear h
  obtain ⟨g0, h⟩ := h0
  rw [blt_eq, decide_eq_true_eq] at g0
  obtain ⟨_, q, hs, _⟩ := hF.size s g0
  have f1 := hF.int d
  have f2 := hF.flo d
  generalize ty d = r at h f1 f2
  obtain ⟨td, n⟩ := r
  split at h
  · next k' n' k fl x heq =>
    cases heq
    obtain ⟨g1, h⟩ := cond_some h
    cases h
    simp only [Bool.and_eq_true] at g1
    have hu := f1 _ _ rfl
    simp only [REnt, RSh, RK] at hv
    obtain ⟨_, rfl, hx⟩ := hv
    have hrun : (convert s d (.int k (decI k x))).run P w = .ok (.int k' (k'.wrap (decI k x))) w := by
      simp [convert, run_underlying hs w, run_underlying hu w, Conv.intToInt]
    refine ⟨_, hrun, ?_⟩
    simp only [REnt]
    have hlt : convN k k' x < limK k' := by
      unfold convN
      cases q : Nat.ble (limK k) (limK k')
      · exact Nat.mod_lt _ (limK_pos _)
      · rw [ble_eq, decide_eq_true_eq] at q; simp only [cond_true]; omega
    rw [wrap_dec g1.2 hlt]
    · exact RInt hlt
    · have h1 := dec_mod g1.1 hx
      have h2 : (convN k k' x : Int) % (limK k' : Int) = (x : Int) % (limK k' : Int) := by
        unfold convN
        cases q : Nat.ble (limK k) (limK k')
        · simp only [cond_false]
          have : Nat.mod x (limK k') = x % limK k' := rfl
          rw [this]; simp
        · rfl
      have h3 : (decI k x - x) % (limK k' : Int) = 0 := by
        by_cases hk : k = .i64
        · subst hk
          cases k' <;> simp only [convOk, Bool.false_eq_true, and_false] at g1 <;> simp only [limK] at h1 ⊢ <;> omega
        · rw [dec_else hk]; simp
      have h4 := Int.emod_eq_emod_iff_emod_sub_eq_zero.2 h3
      apply Int.emod_eq_emod_iff_emod_sub_eq_zero.1
      rw [h4, h2]
  · next n' heq =>
    cases heq
    cases h
    have hu := f1 _ _ rfl
    simp only [REnt] at hv
    subst hv
    have hf : (Conv.floatToInt .f64 4696837146684686336 .u64 : Sem Value).run P w = .ok (.int .u64 1000000) w := by kernel_rfl
    refine ⟨.int .u64 1000000, ?_, ?_⟩
    · have hcs : cstV 2 = .float .f64 4696837146684686336 := rfl
      rw [hcs]
      simp only [convert, Sem.run_bind, run_underlying hs w, run_underlying hu w, Result.andThen_ok]
      exact hf
    · have := RInt (N := N) (k := .u64) (x := 1000000) (by decide)
      exact this
  · next n' fl x heq =>
    cases heq
    cases h
    have hu := f2 _ rfl
    have hx := Nat.eq_of_beq_eq_true (hc _ rfl)
    subst hx
    simp only [REnt, RSh, RK] at hv
    obtain ⟨_, rfl, _⟩ := hv
    refine ⟨.float .f64 4696837146684686336, ?_, rfl⟩
    have hf : FloatKind.nearest .f64 (1000000 : Int) = 4696837146684686336 := by kernel_rfl
    have hd : decI .u64 1000000 = (1000000 : Int) := rfl
    rw [hd]
    simp only [convert, Sem.run_bind, run_underlying hs w, run_underlying hu w, Result.andThen_ok, Conv.intToFloat, hf, Sem.run_pure]
  · cases h

theorem nthE_ok {N : Nm} {lam : Nat → Nat} : ∀ {i : Nat} {l : List Ent} {vs : List Value} {e : Ent}, REnts N lam l vs → nthE i l = some e → ∃ v, vs[i]? = some v ∧ REnt N lam e v
  | 0, x :: l, vs, e, hv, h => by
    cases h
    simp only [REnts] at hv
    obtain ⟨v, t, rfl, h1, _⟩ := hv
    exact ⟨v, rfl, h1⟩
  | i + 1, x :: l, vs, e, hv, h => by
    simp only [REnts] at hv
    obtain ⟨v, t, rfl, _, h2⟩ := hv
    obtain ⟨u, h3, h4⟩ := nthE_ok h2 h
    exact ⟨u, by simpa using h3, h4⟩
theorem semExtract_ok {N : Nm} {lam : Nat → Nat} {w : World} {e : Ent} {i : Nat} {u : Value} (hv : REnt N lam e u) {chk : Option Bool} {ent : Ent} (h : semExtract e i = some (chk, ent)) :
    ∃ v, (Instr.extract u i).run P w = .ok v w ∧ REnt N lam ent v := by
  unfold semExtract at h
  split at h
  · next l =>
    cases q : nthE i l with
    | none => rw [q] at h; cases h
    | some r =>
      rw [q] at h; cases h
      simp only [REnt] at hv
      obtain ⟨vs, rfl, hs⟩ := hv
      obtain ⟨v, h1, h2⟩ := nthE_ok hs q
      refine ⟨v, ?_, h2⟩
      have : vs[i]? = some v := by simpa using h1
      simp [Instr.extract, this]
  · cases h

theorem semPick_ok {N : Nm} {lam : Nat → Nat} {w : World} {q : Bool} {a b : Option Ent} {A B : Value} (ha : ∀ e, a = some e → REnt N lam e A) (hb : ∀ e, b = some e → REnt N lam e B)
    {chk : Option Bool} {ent : Ent} (h : semPick q a b = some (chk, ent)) (hc : ∀ b, chk = some b → b = true) : REnt N lam ent (if q then A else B) := by
  unfold semPick at h
  split at h
  · next s w' ga ea eb =>
    have h1 := ha _ rfl
    have h2 := hb _ rfl
    simp only [REnt] at h1
    cases qa : asB ea with
    | none => rw [qa] at h; cases h
    | some x =>
      cases qb : asB eb with
      | none => rw [qa, qb] at h; cases h
      | some y =>
        rw [qa, qb] at h; cases h
        have hc := hc _ rfl
        cases q
        · rw [asB_ok qb h2]; rfl
        · simp only [cond_true] at hc
          rw [asB_ok qa (h1.1 hc)]; rfl
  · next ea s w' gb eb hne =>
    have h1 := ha _ rfl
    have h2 := hb _ rfl
    simp only [REnt] at h2
    cases qa : asB ea with
    | none => rw [qa] at h; cases h
    | some x =>
      cases qb : asB eb with
      | none => rw [qa, qb] at h; cases h
      | some y =>
        rw [qa, qb] at h; cases h
        have hc := hc _ rfl
        cases q
        · simp only [cond_false] at hc
          rw [asB_ok qb (h2.1 hc)]; rfl
        · rw [asB_ok qa h1]; rfl
  · next ea eb hne1 hne2 =>
    have h1 := ha _ rfl
    have h2 := hb _ rfl
    cases qa : asB ea with
    | none => rw [qa] at h; cases h
    | some x =>
      cases qb : asB eb with
      | none => rw [qa, qb] at h; cases h
      | some y =>
        rw [qa, qb] at h; cases h
        cases q
        · rw [asB_ok qb h2]; rfl
        · rw [asB_ok qa h1]; rfl
  · cases h

theorem eqEnt_ok {N : Nm} {lam : Nat → Nat} {w : World} {op : BinOp} {b : Bool} {chk : Option Bool} {ent : Ent} (h : eqEnt op b = some (chk, ent)) :
    (op = .eql ∧ REnt N lam ent (.bool b)) ∨ (op = .neq ∧ REnt N lam ent (.bool (!b))) := by
  cases op <;> simp only [eqEnt] at h <;> cases h
  · exact .inl ⟨rfl, rfl⟩
  · exact .inr ⟨rfl, by simp only [REnt, notB_eq]⟩
end Go.Proofs.YtaekfgbfpfecdaaGreat.VM

/- Structs and arrays put together and taken apart; no conditions but those that each theorem names. -/
namespace Go.Proofs.YtaekfgbfpfecdaaGreat.VM
open Go
set_option linter.unusedVariables false
variable {P : Program}

theorem cst_one (i : Nat) : (cstV i).oneCell' = true := by
  unfold cstV cstT
  simp only [lookN]
  cases Nat.beq 0 i
  · cases Nat.beq 1 i
    · cases Nat.beq 2 i
      · cases Nat.beq 3 i
        · cases Nat.beq 4 i <;> rfl
        · rfl
      · rfl
    · rfl
  · rfl
theorem fitK_ok {N : Nm} {a b : K} (h : fitK a b = true) {x : Nat} {v : Value} (hv : RK N a x v) : RK N b x v := by
  unfold fitK at h
  rw [Bool.or_eq_true] at h
  rcases h with h | h
  · rw [← K.eq_of_beq h]; exact hv
  · rw [Bool.and_eq_true] at h
    rw [K.eq_of_beq h.1]
    rw [K.eq_of_beq h.2] at hv
    simp only [RK] at hv ⊢
    obtain ⟨rfl, hx⟩ := hv
    simp only [limK] at hx
    exact ⟨decI .u64 x, rfl, by simp only [decI]; omega, by simp only [decI]; omega⟩
theorem fitKs_ok {N : Nm} : ∀ {l l' : List K}, fitKs l l' = true → ∀ {x : Nat} {vs : List Value}, RL N l x vs → RL N l' x vs := by
  have key : ∀ {l l' : List K}, fitKs l l' = true → l.length = l'.length ∧ ∀ j (h : j < l.length) (h' : j < l'.length), fitK l[j] l'[j] = true := by
    intro l
    induction l with
    | nil => intro l' h; cases l' with
      | nil => exact ⟨rfl, fun j h => absurd h (by simp)⟩
      | cons => cases h
    | cons a l ih =>
      intro l' h
      cases l' with
      | nil => cases h
      | cons b l' =>
        simp only [fitKs] at h
        obtain ⟨h1, h2⟩ := condT h
        obtain ⟨h3, h4⟩ := ih h2
        refine ⟨by simp [h3], fun j hj hj' => ?_⟩
        cases j with
        | zero => exact h1
        | succ j => exact h4 j (by simpa using hj) (by simpa using hj')
  intro l l' h x vs hv
  obtain ⟨h1, h2⟩ := key h
  refine ⟨by rw [hv.1, h1], fun j hj hj' => ?_⟩
  exact fitK_ok (h2 j (by omega) hj) (hv.2 j (by omega) hj')

/-- An entry laid into lanes: its number stands for its cells. -/
theorem toLay_ok {N : Nm} {lam : Nat → Nat} {l : List K} {agg : Bool} {e : Ent} {y : Nat} {v : Value} (h : toLay l agg e = some y) (hv : REnt N lam e v) :
    y < 2 ^ (64 * l.length) ∧ RL N l y v.cells.toList ∧ (agg = true → ∃ cs, v = .agg cs) := by
  have one : ∀ (k : K) (x : Nat) (u : Value), x < 2 ^ 64 → RK N k x u → u.oneCell' = true → x < 2 ^ (64 * [k].length) ∧ RL N [k] x u.cells.toList ∧ ((false : Bool) = true → ∃ cs, u = .agg cs) := by
    intro k x u hx hk h1
    refine ⟨by simpa using hx, ?_, fun e => by cases e⟩
    have hc : u.cells = #[u] := by cases u <;> first | rfl | cases h1
    rw [hc]
    refine ⟨rfl, fun j hj hj' => ?_⟩
    have : j = 0 := by simpa using hj
    subst this
    rw [lane_one hx]; exact hk
  cases agg with
  | true =>
    simp only [toLay] at h
    split at h
    · next l' fl x =>
      obtain ⟨h1, h⟩ := cond_some h
      cases h
      obtain ⟨hx, vs, rfl, hl⟩ := hv
      have hlen : l'.length = l.length := by have := (fitKs_ok h1 hl).1; have := hl.1; omega
      exact ⟨by rw [← hlen]; exact hx, fitKs_ok h1 hl, fun _ => ⟨vs, rfl⟩⟩
    · cases h
  | false =>
    simp only [toLay] at h
    split at h
    · next k =>
      split at h
      · next s fl x =>
        obtain ⟨h1, h⟩ := cond_some h
        cases h
        unfold fitShK at h1
        split at h1
        · next a b =>
          obtain ⟨hx, hk⟩ := hv
          have hk' := fitK_ok h1 hk
          exact one _ _ _ hx hk' (hk'.oneCell cst_one)
        · next l' nn t =>
          obtain ⟨hx, hp, _⟩ := hv
          have := beqKs_eq h1
          subst this
          refine one _ _ _ hx (by simpa only [RK] using hp) ?_
          rcases hp with ⟨_, rfl⟩ | ⟨_, _, _, rfl, _⟩ <;> rfl
        · next l' t =>
          obtain ⟨hx, hs⟩ := hv
          have := beqKs_eq h1
          subst this
          refine one _ _ _ hx (by simpa only [RK] using hs) ?_
          rcases hs with ⟨_, rfl⟩ | ⟨_, _, _, rfl⟩ | ⟨_, _, _, _, _, _, rfl, _⟩ <;> rfl
        · cases h1
      · next b =>
        split at h
        · cases h
          simp only [REnt] at hv
          subst hv
          refine one _ _ _ (by cases b <;> decide) ?_ rfl
          cases b <;> exact ⟨rfl, by decide⟩
        · cases h
      · next i =>
        split at h
        · next j =>
          obtain ⟨h1, h⟩ := cond_some h
          cases h
          have := Nat.eq_of_beq_eq_true h1
          subst this
          simp only [REnt] at hv
          subst hv
          exact one _ _ _ (by decide) ⟨rfl, rfl⟩ (cst_one _)
        · cases h
      · next i =>
        split at h
        all_goals first
          | (cases h; done)
          | (obtain ⟨h1, h⟩ := cond_some h
             cases h
             have := Nat.eq_of_beq_eq_true h1
             subst this
             simp only [REnt, zV] at hv
             subst hv
             refine one _ _ _ (by decide) (.inl ⟨rfl, rfl⟩) rfl)
      · cases h
    · cases h

theorem setCells_get (vs : List Value) : ∀ (k o : Nat) (cs : Array Value) (i : Nat), o + k + vs.length ≤ cs.size →
    ((vs.zipIdx k).foldl (fun cs (x : Value × Nat) => cs.setIfInBounds (o + x.2) x.1) cs)[i]? = if o + k ≤ i ∧ i < o + k + vs.length then vs[i - (o + k)]? else cs[i]? := by
  induction vs with
  | nil =>
    intro k o cs i h
    simp only [List.length_nil, Nat.add_zero, List.zipIdx_nil, List.foldl_nil]
    rw [if_neg (by omega)]
  | cons v vs ih =>
    intro k o cs i h
    simp only [List.length_cons] at h
    simp only [List.zipIdx_cons, List.foldl_cons]
    rw [ih (k + 1) o _ i (by simp; omega)]
    simp only [List.length_cons]
    by_cases h1 : i = o + k
    · subst h1
      have : ¬ (o + (k + 1) ≤ o + k ∧ o + k < o + (k + 1) + vs.length) := by omega
      rw [if_neg this, if_pos (by omega)]
      have hk : o + k < cs.size := by omega
      simp [hk]
    · by_cases h2 : o + (k + 1) ≤ i ∧ i < o + (k + 1) + vs.length
      · rw [if_pos h2, if_pos (by omega)]
        rw [show i - (o + k) = (i - (o + (k + 1))) + 1 by omega]
        simp
      · rw [if_neg h2, if_neg (by omega), Array.getElem?_setIfInBounds_ne (by omega)]
theorem setCells_size (vs : List Value) : ∀ (k o : Nat) (cs : Array Value),
    ((vs.zipIdx k).foldl (fun cs (x : Value × Nat) => cs.setIfInBounds (o + x.2) x.1) cs).size = cs.size := by
  induction vs with
  | nil => intro k o cs; rfl
  | cons v vs ih => intro k o cs; simp only [List.zipIdx_cons, List.foldl_cons]; rw [ih]; simp

/-- Parts laid into a row of zeros. -/
theorem fill_ok {N : Nm} (hp : Pools N) {lam : Nat → Nat} {env : Env} {lo : Lo} {a : Act} {w : World} (hE : RE N lam env lo a w) {place : Nat → Option (Nat × Nat × Bool)} {pl : Nat → Option (Nat × Nat)}
    (hpl : ∀ i o z g, place i = some (o, z, g) → pl i = some (o, z)) {l : List K} : ∀ (ps : List (Nat × Operand)) (fm acc : Nat) (cs : Array Value) (x : Nat), partsN place l env ps fm acc = some x →
      acc < 2 ^ (64 * l.length) → (∀ j, fm.testBit j = false → lane acc j = 0) → RL N l acc cs.toList →
      ∃ cs', Instr.fill pl cs (ps.map fun (i, x) => (i, a.eval x)) = some cs' ∧ RL N l x cs'.toList ∧ x < 2 ^ (64 * l.length)
  | [], fm, acc, cs, x, h, h1, h2, h3 => by
    cases h
    exact ⟨cs, rfl, h3, h1⟩
  | (i, q) :: ps, fm, acc, cs, x, h, h1, h2, h3 => by
    simp only [partsN] at h
    cases hplace : place i with
    | none => rw [hplace] at h; cases h
    | some ozg =>
    obtain ⟨o, z, g⟩ := ozg
    cases he : evO env q with
    | none => rw [hplace, he] at h; cases h
    | some e =>
    rw [hplace, he] at h
    simp only at h
    obtain ⟨g1, h⟩ := cond_some h
    simp only [Bool.and_eq_true, ble_eq, blt_eq, decide_eq_true_eq, lenK_eq] at g1
    obtain ⟨⟨g1, g2⟩, g3⟩ := g1
    have g1 := Nat.eq_of_beq_eq_true g1
    have hmb : ∀ j, (Nat.shiftLeft (Nat.sub (Nat.shiftLeft 1 z) 1) o).testBit j = (decide (o ≤ j) && decide (j < o + z)) := by
      intro j
      have e1 : Nat.sub (Nat.shiftLeft 1 z) 1 = 2 ^ z - 1 := by
        have : Nat.sub (Nat.shiftLeft 1 z) 1 = 1 <<< z - 1 := rfl
        rw [this, Nat.shiftLeft_eq, Nat.one_mul]
      rw [testBit_shl', e1, Nat.testBit_two_pow_sub_one]
      by_cases h : o ≤ j
      · have : (j - o < z) = (j < o + z) := by apply propext; omega
        simp [h, this]
      · simp [h]
    have hfree : ∀ j, o ≤ j → j < o + z → lane acc j = 0 := by
      intro j hj1 hj2
      refine h2 j ?_
      have := congrArg (fun n => n.testBit j) g1
      have e2 : (Nat.land fm (Nat.shiftLeft (Nat.sub (Nat.shiftLeft 1 z) 1) o)).testBit j = (fm.testBit j && (Nat.shiftLeft (Nat.sub (Nat.shiftLeft 1 z) 1) o).testBit j) := Nat.testBit_and _ _ _
      simp only [e2, hmb, Nat.zero_testBit] at this
      simpa [hj1, hj2] using this
    have g2' : o + z ≤ l.length := g2
    cases hy : toLay (takeK z (dropK o l)) g e with
    | none => rw [hy] at h; cases h
    | some y =>
    rw [hy] at h
    simp only at h
    rw [takeK_eq, dropK_eq] at hy
    obtain ⟨t1, t2, _⟩ := toLay_ok hy (evO_ok hp hE he)
    have hlen : ((l.drop o).take z).length = z := by simp; omega
    rw [hlen] at t1
    have hvs : (a.eval q).cells.size = z := by
      have := t2.1
      rw [hlen] at this
      exact this
    have hcs : cs.size = l.length := h3.1
    have hacc : (cond (Nat.beq fm 0 && Nat.beq o 0) y (cat acc o y)) = cat acc o y := by
      cases q0 : (Nat.beq fm 0 && Nat.beq o 0)
      · rfl
      · rw [Bool.and_eq_true] at q0
        have hfm := Nat.eq_of_beq_eq_true q0.1
        have := Nat.eq_of_beq_eq_true q0.2
        subst this hfm
        have : acc = 0 := lanes_zero fun j => h2 j (Nat.zero_testBit j)
        subst this
        have e0 : Nat.shiftLeft 0 6 = 0 := by decide
        simp only [cond_true, cat, e0]
        exact (Nat.zero_xor y).symm
    rw [hacc] at h
    have hstep : Instr.fill pl cs (((i, q) :: ps).map fun (i, x) => (i, a.eval x)) =
        Instr.fill pl ((a.eval q).cells.zipIdx.foldl (fun cs (c, j) => cs.setIfInBounds (o + j) c) cs) (ps.map fun (i, x) => (i, a.eval x)) := by
      simp only [List.map_cons, Instr.fill, hpl i o z g hplace]
      rw [if_neg]
      simp [hvs]; omega
    rw [hstep]
    have hfold : ((a.eval q).cells.zipIdx.foldl (fun cs (c, j) => cs.setIfInBounds (o + j) c) cs) = ((a.eval q).cells.toList.zipIdx 0).foldl (fun cs (x : Value × Nat) => cs.setIfInBounds (o + x.2) x.1) cs := by
      rw [← Array.foldl_toList, Array.toList_zipIdx]
    rw [hfold]
    have hvl : (a.eval q).cells.toList.length = z := hvs
    refine fill_ok hp hE hpl ps _ (cat acc o y) _ x h (cat_lt' h1 t1 g2') (fun j hj => ?_) ⟨?_, ?_⟩
    · have e3 : (Nat.lor fm (Nat.shiftLeft (Nat.sub (Nat.shiftLeft 1 z) 1) o)).testBit j = (fm.testBit j || (Nat.shiftLeft (Nat.sub (Nat.shiftLeft 1 z) 1) o).testBit j) := Nat.testBit_or _ _ _
      rw [e3, hmb, Bool.or_eq_false_iff] at hj
      have hno : ¬ (o ≤ j ∧ j < o + z) := fun h => by
        have := hj.2
        simp [h.1, h.2] at this
      rw [lane_lay hfree t1, if_neg hno]
      exact h2 j hj.1
    · have := setCells_size (a.eval q).cells.toList 0 o cs
      show (Array.toList _).length = l.length
      rw [Array.length_toList, this, hcs]
    · intro j hj hj'
      have hg := setCells_get (a.eval q).cells.toList 0 o cs j (by omega)
      rw [lane_lay hfree t1]
      rw [hvl, Nat.add_zero] at hg
      have hget : ∀ v, (((a.eval q).cells.toList.zipIdx 0).foldl (fun cs (x : Value × Nat) => cs.setIfInBounds (o + x.2) x.1) cs)[j]? = some v → 
          (Array.toList (((a.eval q).cells.toList.zipIdx 0).foldl (fun cs (x : Value × Nat) => cs.setIfInBounds (o + x.2) x.1) cs))[j] = v := by
        intro v hv
        rw [← Array.getElem?_toList, List.getElem?_eq_getElem hj'] at hv
        exact Option.some.inj hv
      by_cases hin : o ≤ j ∧ j < o + z
      · rw [if_pos hin] at hg
        have hjz : j - o < (a.eval q).cells.toList.length := by omega
        rw [List.getElem?_eq_getElem hjz] at hg
        rw [hget _ hg, if_pos hin]
        have := t2.2 (j - o) (by rw [hlen]; omega) hjz
        have hk : ((l.drop o).take z)[j - o]'(by rw [hlen]; omega) = l[j] := by
          simp; congr 1; omega
        rw [hk] at this
        exact this
      · rw [if_neg hin] at hg
        have hjc : j < cs.toList.length := by
          have : cs.toList.length = cs.size := rfl
          omega
        have hcj : cs[j]? = some cs.toList[j] := by rw [← Array.getElem?_toList, List.getElem?_eq_getElem hjc]
        rw [hcj] at hg
        rw [hget _ hg, if_neg hin]
        exact h3.2 j hj hjc
end Go.Proofs.YtaekfgbfpfecdaaGreat.VM

/- Structs put together, comparisons, closures, built-in functions; no conditions but those that each theorem names. -/
namespace Go.Proofs.YtaekfgbfpfecdaaGreat.VM
open Go
set_option linter.unusedVariables false
variable {P : Program}

theorem nthF_eq : ∀ (i : Nat) (l : List (Nat × Nat)), nthF i l = l[i]?
  | 0, [] => rfl
  | 0, x :: l => rfl
  | i + 1, [] => rfl
  | i + 1, x :: l => by simp [nthF, nthF_eq i l]
theorem placeSt_ok {t : Nat} {fs : List (Nat × Nat)} {i o z : Nat} {g : Bool} (h : placeSt t fs i = some (o, z, g)) : fs.toArray[i]? = some (o, z) := by
  unfold placeSt at h
  cases q : nthF i fs with
  | none => rw [q] at h; cases h
  | some oz =>
    cases q2 : nthN i (fieldTys t) with
    | none => rw [q, q2] at h; cases h
    | some ft =>
      rw [q, q2] at h
      obtain ⟨_, h⟩ := cond_some h
      cases h
      rw [nthF_eq] at q
      simpa using q

theorem semBuild_ok (hF : Facts P) {N : Nm} (hp : Pools N) {lam : Nat → Nat} {env : Env} {lo : Lo} {a : Act} {w : World} {c : Core} (hR : Rel N c w) (hE : RE N lam env lo a w) {t : Nat} {ps : Array (Nat × Operand)}
    {chk : Option Bool} {ent : Ent} (h : semBuild t ps.toList env = some (chk, ent)) :
    ∃ v, (Instr.build t (ps.map fun (i, x) => (i, a.eval x))).run P w = .ok v w ∧ REnt N lam ent v := by
  unfold semBuild at h
  have h0 := cond_some h
  clear h
  obtain ⟨hz, h⟩ := h0
  obtain ⟨it, z, hit, hzz, hzl, _⟩ := hF.zero t hz
  have f1 := hF.st t
  have f2 := hF.arr t
  generalize ty t = r at h f1 f2
  obtain ⟨d, n⟩ := r
  have hparts : (ps.map fun (i, x) => (i, a.eval x)).toList = ps.toList.map fun (i, x) => (i, a.eval x) := by simp
  cases d <;> simp only at h <;> first | (cases h; done) | skip
  · next len el =>
    obtain ⟨g1, h⟩ := cond_some h
    simp only [Bool.and_eq_true, blt_eq, decide_eq_true_eq] at g1
    have hu := f2 _ _ _ rfl
    cases q : partsN (placeArr len el) (lay t) env ps.toList 0 0 with
    | none => rw [q] at h; cases h
    | some x =>
      rw [q] at h; cases h
      obtain ⟨hsz, _⟩ := hF.size el g1.2
      cases hie : P.info? el with
      | none => simp [hie] at hsz
      | some ie =>
      have hs : ie.size = (ty el).size := by simpa [hie] using hsz
      obtain ⟨cs, hfill, hrl, hlt⟩ := fill_ok hp hE (pl := fun i => some (i * ie.size, ie.size)) (fun i o z g hh => by
        unfold placeArr at hh
        obtain ⟨_, hh⟩ := cond_some hh
        cases hh
        rw [hs]; rfl) _ _ _ z.cells _ q (Nat.two_pow_pos _) (fun j _ => lane_zero j) (hzl N c w hR)
      refine ⟨.agg cs, run_build w t _ cs ?_, hlt, cs, rfl, hrl⟩
      simp only [Program.built, hit, hu, hzz, hie, hparts, hfill]
  · next fs =>
    obtain ⟨g1, h⟩ := cond_some h
    obtain ⟨fds, hu, hmap, _⟩ := f1 _ _ rfl
    cases q : partsN (placeSt t fs) (lay t) env ps.toList 0 0 with
    | none => rw [q] at h; cases h
    | some x =>
      rw [q] at h; cases h
      obtain ⟨cs, hfill, hrl, hlt⟩ := fill_ok hp hE (pl := fun i => fs.toArray[i]?) (fun i o z g hh => placeSt_ok hh) _ _ _ z.cells _ q (Nat.two_pow_pos _) (fun j _ => lane_zero j) (hzl N c w hR)
      refine ⟨.agg cs, run_build w t _ cs ?_, hlt, cs, rfl, hrl⟩
      simp only [Program.built, hit, hu, hzz, hmap, hparts, hfill]

theorem semField_ok (hF : Facts P) {N : Nm} {lam : Nat → Nat} {w : World} {t f : Nat} {e : Ent} {u : Value} (hv : REnt N lam e u) {chk : Option Bool} {ent : Ent} (h : semField t e f = some (chk, ent)) :
    ∃ v, (Instr.field t u f).run P w = .ok v w ∧ REnt N lam ent v := by
  unfold semField at h
  have f1 := hF.st t
  generalize ty t = r at h f1
  obtain ⟨d, n⟩ := r
  cases d <;> simp only at h <;> first | (cases h; done) | skip
  next fs =>
  obtain ⟨fds, hu, _, hfs⟩ := f1 _ _ rfl
  split at h
  · next o z ft l fl x q1 q2 =>
    obtain ⟨fd, hfd, ho, hi, hft⟩ := hfs _ _ _ q1
    rw [q2] at hft
    cases hft
    have h0 := cond_some h
    clear h
    obtain ⟨g1, h⟩ := h0
    simp only [Bool.and_eq_true, ble_eq, blt_eq, decide_eq_true_eq] at g1
    obtain ⟨⟨⟨g1, g2⟩, g3⟩, g4⟩ := g1
    have hn := Nat.eq_of_beq_eq_true g1
    rw [lenK_eq] at hn
    have hzz := Nat.eq_of_beq_eq_true g4
    have g2' : o + z ≤ n := g2
    obtain ⟨_, d', hu', hd'⟩ := hF.size fd.type (by omega)
    obtain ⟨hx, vs, rfl, hl⟩ := hv
    cases hel : entLay (ty fd.type).desc.isRow (takeK z (dropK o l)) false (rd x (Nat.shiftLeft o 6) z) with
    | none => rw [hel] at h; cases h
    | some r =>
      rw [hel] at h
      cases h
      rw [takeK_eq, dropK_eq, shl6] at hel
      have hpart := hl.part (o := o) (n := z) (x := rd x (64 * o) z) (fun j hj => by rw [lane_rd, if_pos hj]) (by omega)
      have hlen : ((l.drop o).take z).length = z := by simp; omega
      have hvs : vs.size = l.length := hl.1
      cases hq : P.info? fd.type with
      | none => simp [hq] at hi
      | some inf =>
      have hs : inf.size = z := by simpa [hq] using hi
      have hagg : (isAgg fd.type).run P w = .ok d'.isRow w := by
        unfold isAgg
        rw [Sem.run_bind, run_underlying hu' w]
        cases d' <;> simp
      cases hrow : (ty fd.type).desc.isRow with
      | true =>
        rw [hrow] at hel hd'
        rw [entLay_row hel]
        refine ⟨.agg (vs.extract o (o + z)), ?_, ?_⟩
        · rw [hd'] at hagg
          simp only [Instr.field, Sem.run_bind, run_underlying hu w, Result.andThen_ok, hfd, asAgg, Sem.run_pure, part, hagg, if_true, run_size hq w, hs, ho]
        · have : (vs.extract o (o + z)).toList = (vs.toList.drop o).take z := by
            rw [Array.toList_extract, List.extract_eq_take_drop, Nat.add_sub_cancel_left]
          exact ⟨by rw [hlen]; exact rd_lt _ _ _, _, rfl, by rw [this]; exact hpart⟩
      | false =>
        rw [hrow] at hel hd'
        obtain ⟨k, hk, rfl⟩ := entLay_one hel
        have hz1 : z = 1 := by rw [← hlen, hk]; rfl
        subst hz1
        have hov : o < vs.size := by omega
        refine ⟨vs[o], ?_, ?_⟩
        · rw [hd'] at hagg
          simp [Instr.field, run_underlying hu w, hfd, asAgg, part, hagg, ho, hov]
        · have hlt : rd x (64 * o) 1 < 2 ^ 64 := by simpa using rd_lt x (64 * o) 1
          refine entK_ok hlt ?_
          have h0 := hpart.2 0 (by rw [hk]; simp) (by simp; omega)
          simp only [hk, List.getElem_cons_zero] at h0
          rw [lane_one hlt] at h0
          have e : ((vs.toList.drop o).take 1)[0]? = vs[o]? := (arr_slice (arr := vs) (o := o) (n := 1) (by omega)).2 0 (by omega)
          rw [List.getElem?_eq_getElem (by simp; omega), Array.getElem?_eq_getElem hov] at e
          rw [← Option.some.inj e]
          exact h0
  · cases h
end Go.Proofs.YtaekfgbfpfecdaaGreat.VM

/- Comparisons of all kinds: what the machine reckons is what the model does; no conditions but those that each theorem names. -/
namespace Go.Proofs.YtaekfgbfpfecdaaGreat.VM
open Go
set_option linter.unusedVariables false
set_option linter.unusedSimpArgs false
variable {P : Program}

/-- Bytes as a number, with a 1 behind them. -/
def encB : List UInt8 → Nat
  | [] => 1
  | b :: l => b.toNat + 256 * encB l
theorem encB_pos : ∀ l, 0 < encB l
  | [] => by decide
  | b :: l => by have := encB_pos l; simp only [encB]; omega
theorem encB_inj : ∀ {l l' : List UInt8}, encB l = encB l' → l = l'
  | [], [], _ => rfl
  | [], b :: l, h => by have := encB_pos l; simp only [encB] at h; omega
  | b :: l, [], h => by have := encB_pos l; simp only [encB] at h; omega
  | b :: l, b' :: l', h => by
    simp only [encB] at h
    have h1 := b.toNat_lt
    have h2 := b'.toNat_lt
    have e1 : b.toNat = b'.toNat := by omega
    have e2 : encB l = encB l' := by omega
    rw [UInt8.toNat_inj.1 e1, encB_inj e2]
theorem encB_bytes (s : Nat) : ∀ (n a : Nat), encB ((List.range n).map fun i => UInt8.ofNat (s / 2 ^ (a + 8 * i) % 256)) = s / 2 ^ a % 2 ^ (8 * n) + 2 ^ (8 * n)
  | 0, a => by simp [encB, Nat.mod_one]
  | n + 1, a => by
    have e1 : ((List.range (n + 1)).map fun i => UInt8.ofNat (s / 2 ^ (a + 8 * i) % 256)) =
        UInt8.ofNat (s / 2 ^ a % 256) :: ((List.range n).map fun i => UInt8.ofNat (s / 2 ^ (a + 8 + 8 * i) % 256)) := by
      rw [List.range_succ_eq_map]
      simp only [List.map_cons, List.map_map, Nat.mul_zero, Nat.add_zero]
      congr 1
      apply List.map_congr_left
      intro i _
      simp only [Function.comp]
      rw [show a + 8 * (i + 1) = a + 8 + 8 * i by omega]
    rw [e1, encB, encB_bytes s n (a + 8)]
    have e2 : (UInt8.ofNat (s / 2 ^ a % 256)).toNat = s / 2 ^ a % 256 := by rw [UInt8.toNat_ofNat']; omega
    have e3 : s / 2 ^ (a + 8) = s / 2 ^ a / 256 := by rw [Nat.pow_add, Nat.div_div_eq_div_mul]
    have e4 : (2 : Nat) ^ (8 * (n + 1)) = 256 * 2 ^ (8 * n) := by rw [Nat.mul_add, Nat.pow_add, Nat.mul_comm]
    rw [e2, e3, e4, Nat.mod_mul]
    omega
theorem strS_eq (s x : Nat) : strS s x = encB (bytesOf s x) := by
  have h1 : bytesOf s x = (List.range (x % 65536)).map fun i => UInt8.ofNat (s / 2 ^ (x / 65536 + 8 * i) % 256) := rfl
  rw [h1, encB_bytes]
  have e3 : ∀ q, Nat.shiftLeft q 3 = 8 * q := fun q => by
    have : Nat.shiftLeft q 3 = q <<< 3 := rfl
    rw [this, Nat.shiftLeft_eq]; omega
  have e1 : ∀ q, Nat.shiftLeft 1 q = 2 ^ q := fun q => by
    have : Nat.shiftLeft 1 q = 1 <<< q := rfl
    rw [this, Nat.shiftLeft_eq, Nat.one_mul]
  have e2 : ∀ p q, Nat.land p (Nat.sub (2 ^ q) 1) = p % 2 ^ q := fun p q => Nat.and_two_pow_sub_one_eq_mod p q
  have e4 : ∀ p q, Nat.shiftRight p q = p / 2 ^ q := fun p q => Nat.shiftRight_eq_div_pow p q
  unfold strS
  rw [e3, e1, e2, e4, strLen_eq, strAt_eq]
  rfl
theorem str_beq {N : Nm} {c : Core} {w : World} (hR : Rel N c w) {x y : Nat} {l m : List UInt8} (hl : StrAt N x l) (hm : StrAt N y m) : Nat.beq (strS c.s x) (strS c.s y) = (l == m) := by
  rw [hR.bytes hl, hR.bytes hm, strS_eq, strS_eq, Bool.eq_iff_iff]
  simp only [Nat.beq_eq, beq_iff_eq]
  exact ⟨encB_inj, fun h => by rw [h]⟩

theorem semShift_ok {N : Nm} {lam : Nat → Nat} {w : World} {op : BinOp} {k k' : IntKind} {x y : Nat} (hx : x < limK k) (hy : y < limK k') {chk : Option Bool} {ent : Ent}
    (h : semShift op k x y = some (chk, ent)) (hc : ∀ b, chk = some b → b = true) (t : TypeId) :
    ∃ v, (binOp op t (.int k (decI k x)) (.int k' (decI k' y))).run P w = .ok v w ∧ REnt N lam ent v := by
  have hdy : y < 64 → decI k' y = y := by
    intro hy
    by_cases hk : k' = .i64
    · subst hk; rw [dec_i64, if_pos (by omega)]
    · exact dec_else hk _
  unfold semShift at h
  split at h
  · cases h
    have hy := hc _ rfl
    rw [blt_eq, decide_eq_true_eq] at hy
    simp only [limK] at hx
    rw [hdy hy]
    have hlt : Nat.mod (Nat.shiftLeft x y) 18446744073709551616 < limK .u64 := Nat.mod_lt _ (by decide)
    refine ⟨.int .u64 (IntKind.u64.wrap ((x : Int) * 2 ^ y)), ?_, ?_⟩
    · have : min y 64 = y := by omega
      simp [binOp, Op.shift, decI, IntKind.bits, this]
    · simp only [REnt]
      rw [wrap_dec (k := .u64) rfl hlt]
      · exact RInt hlt
      · have e1 : Nat.mod (Nat.shiftLeft x y) 18446744073709551616 = (x * 2 ^ y) % 18446744073709551616 := by
          have : Nat.shiftLeft x y = x <<< y := rfl
          rw [this, Nat.shiftLeft_eq]; rfl
        rw [e1]
        simp only [limK]
        have e2 : ((x : Int) * 2 ^ y) = ((x * 2 ^ y : Nat) : Int) := by simp
        rw [e2]
        omega
  · cases h
    have hy := hc _ rfl
    rw [blt_eq, decide_eq_true_eq] at hy
    simp only [limK] at hx
    rw [hdy hy]
    have e1 : Nat.shiftRight x y = x / 2 ^ y := Nat.shiftRight_eq_div_pow x y
    have hlt : x / 2 ^ y < 18446744073709551616 := Nat.lt_of_le_of_lt (Nat.div_le_self _ _) hx
    refine ⟨.int .u64 ((x / 2 ^ y : Nat) : Int), ?_, ?_⟩
    · have : min y 64 = y := by omega
      simp [binOp, Op.shift, decI, IntKind.bits, this, Int.fdiv_eq_ediv_of_nonneg]
    · simp only [REnt]
      rw [e1]
      exact RInt (k := .u64) hlt
  · cases h

theorem guard_ok {w : World} {op : BinOp} {t : TypeId} {x y : Operand} {a b : Value} (h1 : a ≠ .nilIface) (h2 : ∀ cs, a ≠ .agg cs) : (eqGuard op t x y a b).run P w = .ok () w := by
  unfold eqGuard
  cases op <;> simp
  all_goals (cases a <;> simp at h1 h2 ⊢)

/-- A comparison that the model makes by its general law. -/
theorem eqRun {N : Nm} {lam : Nat → Nat} {w : World} {op : BinOp} {t : TypeId} {a b : Value} {r : Bool} {chk : Option Bool} {ent : Ent} (h : eqEnt op r = some (chk, ent))
    (hb : ∀ op, (op = .eql ∨ op = .neq) → binOp op t a b = if op = .eql then (do pure (.bool (← Op.equal t a b))) else (do pure (.bool (!(← Op.equal t a b)))))
    (hr : (Op.equal t a b).run P w = .ok r w) : ∃ v, (binOp op t a b).run P w = .ok v w ∧ REnt N lam ent v := by
  rcases eqEnt_ok (N := N) (lam := lam) (w := w) h with ⟨rfl, h2⟩ | ⟨rfl, h2⟩
  · refine ⟨_, ?_, h2⟩
    rw [hb _ (.inl rfl), if_pos rfl]
    simp [hr]
  · refine ⟨_, ?_, h2⟩
    rw [hb _ (.inr rfl), if_neg (by simp)]
    simp [hr]
end Go.Proofs.YtaekfgbfpfecdaaGreat.VM

/- Operators with two operands: what the machine reckons is what the model does; no conditions but those that each theorem names. -/
namespace Go.Proofs.YtaekfgbfpfecdaaGreat.VM
open Go
set_option linter.unusedVariables false
set_option linter.unusedSimpArgs false
variable {P : Program}

theorem ptr_num {N : Nm} {l : List K} {mo : Bool} {x : Nat} {v : Value} (h : RPv N l mo x v) : ∃ a, v = .pointer a ∧ a.isNone = Nat.beq x 0 := by
  rcases h with ⟨rfl, rfl⟩ | ⟨h0, g, o, rfl, _⟩
  · exact ⟨none, rfl, rfl⟩
  · refine ⟨_, rfl, ?_⟩
    have : Nat.beq x 0 = false := by rw [Bool.eq_false_iff]; intro e; exact h0 (Nat.eq_of_beq_eq_true e)
    rw [this]; rfl
theorem sli_num {N : Nm} {l : List K} {x : Nat} {v : Value} (h : RS N l x v) : ∃ a n c, v = .slice a n c ∧ a.isNone = Nat.beq x 0 := by
  rcases h with ⟨rfl, rfl⟩ | ⟨rfl, a, c, rfl⟩ | ⟨a, g, o, c, p1, p2, rfl, _⟩
  · exact ⟨_, _, _, rfl, rfl⟩
  · exact ⟨_, _, _, rfl, rfl⟩
  · refine ⟨_, _, _, rfl, ?_⟩
    have : Nat.beq x 0 = false := by
      rw [Bool.eq_false_iff]; intro e
      have := Nat.eq_of_beq_eq_true e
      subst this
      rw [show slp 0 = 0 from by decide] at p1
      omega
    rw [this]; rfl
theorem eq_ptr {w : World} {t e : TypeId} (hu : P.underlying t = some (.pointer e)) (a : Option Addr) : (Op.equal t (.pointer a) (.pointer none)).run P w = .ok a.isNone w := by
  unfold Op.equal Op.maxDepth Op.equalIn
  cases a <;> simp [run_underlying hu w]
theorem eq_sli {w : World} {t e : TypeId} (hu : P.underlying t = some (.slice e)) (a : Option Addr) (n c : Nat) : (Op.equal t (.slice a n c) (.slice none 0 0)).run P w = .ok a.isNone w := by
  unfold Op.equal Op.maxDepth Op.equalIn
  cases a <;> simp [run_underlying hu w]
theorem eq_fn {N : Nm} {w : World} {t : TypeId} {x : Nat} {v : Value} (hu : ∃ a b c, P.underlying t = some (.func a b c)) (h : RF N x v) : (Op.equal t v .nilFunc).run P w = .ok (Nat.beq x 0) w := by
  obtain ⟨a, b, c, hu⟩ := hu
  unfold Op.equal Op.maxDepth Op.equalIn
  rcases h with ⟨rfl, rfl⟩ | ⟨g, vs, h1, rfl, _⟩
  · simp [run_underlying hu w]
  · have : Nat.beq x 0 = false := by
      rw [Bool.eq_false_iff]; intro e
      have := Nat.eq_of_beq_eq_true e
      subst this
      rw [show Nat.land 0 1023 = 0 from by decide] at h1
      omega
    simp [run_underlying hu w, this]
theorem eq_bool {w : World} {t : TypeId} (hu : P.underlying t = some .bool) (a b : Bool) : (Op.equal t (.bool a) (.bool b)).run P w = .ok (a == b) w := by
  unfold Op.equal Op.maxDepth Op.equalIn
  simp [run_underlying hu w]

theorem runGuard {w : World} {op : BinOp} {t : TypeId} {X Y : Operand} {A B v : Value} (hg : (eqGuard op t X Y A B).run P w = .ok () w) (h : (binOp op t A B).run P w = .ok v w) :
    (do eqGuard op t X Y A B; binOp op t A B).run P w = .ok v w := by
  simp only [Sem.run_bind, hg, Result.andThen_ok, h]

theorem semBin_ok (hF : Facts P) {N : Nm} {lam : Nat → Nat} {w : World} {c : Core} (hR : Rel N c w) {op : BinOp} {t : Nat} {ex ey : Ent} {A B : Value} (hA : REnt N lam ex A) (hB : REnt N lam ey B)
    {chk : Option Bool} {ent : Ent} (h : semBin op t ex ey c = some (chk, ent)) (hc : ∀ b, chk = some b → b = true) (X Y : Operand) :
    ∃ v, (do eqGuard op t X Y A B; binOp op t A B).run P w = .ok v w ∧ REnt N lam ent v := by
  unfold semBin at h
  split at h
  · next k f1 x k' f2 y =>
    simp only [REnt, RSh, RK] at hA hB
    obtain ⟨_, rfl, hx⟩ := hA
    obtain ⟨_, rfl, hy⟩ := hB
    have hg : (eqGuard op t X Y (.int k (decI k x)) (.int k' (decI k' y))).run P w = .ok () w := guard_ok (by simp) (by simp)
    cases q : isShift op <;> rw [q] at h
    · simp only [cond_false] at h
      have h0 := cond_some h
      clear h
      obtain ⟨hk, h⟩ := h0
      have := kidx_eq hk
      subst this
      obtain ⟨v, h1, h2⟩ := semInt_ok (P := P) (N := N) (lam := lam) (w := w) hx hy h hc t
      exact ⟨v, runGuard hg h1, h2⟩
    · simp only [cond_true] at h
      obtain ⟨v, h1, h2⟩ := semShift_ok (P := P) (N := N) (lam := lam) (w := w) hx hy h hc t
      exact ⟨v, runGuard hg h1, h2⟩
  · next f1 x f2 y =>
    simp only [REnt, RSh, RK] at hA hB
    obtain ⟨_, z, rfl, hz1, hz2⟩ := hA
    obtain ⟨_, rfl, hy⟩ := hB
    split at h
    · cases h
      refine ⟨.int .u64 (IntKind.u64.wrap (z + decI .u64 y)), runGuard (guard_ok (by simp) (by simp)) (by simp [binOp, Op.intArith]), by decide, _, rfl, ?_, ?_⟩ <;>
        simp [IntKind.wrap, IntKind.signed, IntKind.bits] <;> omega
    · cases h
  · next f1 x f2 y =>
    simp only [REnt, RSh, RK] at hA hB
    obtain ⟨_, l, hl, rfl⟩ := hA
    obtain ⟨_, m, hm, rfl⟩ := hB
    rw [str_beq hR hl hm] at h
    have hg : (eqGuard op t X Y (.string ⟨l.toArray⟩) (.string ⟨m.toArray⟩)).run P w = .ok () w := guard_ok (by simp) (by simp)
    have ha : ∀ l : List UInt8, (⟨l.toArray⟩ : ByteArray).toList = l := fun l => by rw [ByteArray.toList_eq]
    rcases eqEnt_ok (N := N) (lam := lam) (w := w) h with ⟨rfl, h2⟩ | ⟨rfl, h2⟩
    · exact ⟨_, runGuard hg (by simp [binOp, Op.stringOp, ha]), h2⟩
    · exact ⟨_, runGuard hg (by simp [binOp, Op.stringOp, ha]), h2⟩
  · next l mo nn f x =>
    have f1 := hF.ptr t
    generalize ty t = r at h f1
    obtain ⟨d, n⟩ := r
    cases d <;> simp only at h <;> first | (cases h; done) | skip
    obtain ⟨e', hu⟩ := f1 _ _ rfl
    simp only [REnt, RSh, zV] at hA hB
    subst hB
    obtain ⟨a, rfl, ha⟩ := ptr_num hA.2.1
    rw [← ha] at h
    obtain ⟨v, h1, h2⟩ := eqRun (P := P) (N := N) (lam := lam) (w := w) h (fun op ho => by rcases ho with rfl | rfl <;> cases a <;> rfl) (eq_ptr hu a)
    exact ⟨v, runGuard (guard_ok (by simp) (by simp)) h1, h2⟩
  · next i l o =>
    have f1 := hF.ptr t
    generalize ty t = r at h f1
    obtain ⟨d, n⟩ := r
    cases d <;> simp only at h <;> first | (cases h; done) | skip
    obtain ⟨e', hu⟩ := f1 _ _ rfl
    simp only [REnt, zV] at hA hB
    subst hA hB
    obtain ⟨v, h1, h2⟩ := eqRun (P := P) (N := N) (lam := lam) (w := w) h (fun op ho => by rcases ho with rfl | rfl <;> rfl) (eq_ptr hu (some ⟨lam i, o, none⟩))
    exact ⟨v, runGuard (guard_ok (by simp) (by simp)) h1, h2⟩
  · next l f x =>
    have f1 := hF.sli t
    generalize ty t = r at h f1
    obtain ⟨d, n⟩ := r
    cases d <;> simp only at h <;> first | (cases h; done) | skip
    have hu := f1 _ _ rfl
    simp only [REnt, RSh, zV] at hA hB
    subst hB
    obtain ⟨a, n', c', rfl, ha⟩ := sli_num hA.2
    rw [← ha] at h
    obtain ⟨v, h1, h2⟩ := eqRun (P := P) (N := N) (lam := lam) (w := w) h (fun op ho => by rcases ho with rfl | rfl <;> rfl) (eq_sli hu a n' c')
    exact ⟨v, runGuard (guard_ok (by simp) (by simp)) h1, h2⟩
  · next f x =>
    have f1 := hF.fn t
    generalize ty t = r at h f1
    obtain ⟨d, n⟩ := r
    cases d <;> simp only at h <;> first | (cases h; done) | skip
    have hu := f1 _ rfl
    simp only [REnt, RSh, RK, zV] at hA hB
    subst hB
    obtain ⟨v, h1, h2⟩ := eqRun (P := P) (N := N) (lam := lam) (w := w) h (fun op ho => by
      rcases hA.2 with ⟨_, rfl⟩ | ⟨g, vs, _, rfl, _⟩ <;> rcases ho with rfl | rfl <;> rfl) (eq_fn hu hA.2)
    refine ⟨v, runGuard ?_ h1, h2⟩
    rcases hA.2 with ⟨_, rfl⟩ | ⟨g, vs, _, rfl, _⟩ <;> exact guard_ok (by simp) (by simp)
  · next l f1 x l' f2 y =>
    cases q : eqTy t with
    | none => rw [q] at h; cases h
    | some m =>
      rw [q] at h
      simp only at h
      have h0 := cond_some h
      clear h
      obtain ⟨g1, h⟩ := h0
      rw [Bool.and_eq_true] at g1
      have e1 := beqKs_eq g1.1
      have e2 := beqKs_eq g1.2
      subst e1 e2
      obtain ⟨hx, xs, rfl, hl⟩ := hA
      obtain ⟨hy, ys, rfl, hm⟩ := hB
      obtain ⟨q1, q2⟩ := hF.eq t _ q N x y xs.toList ys.toList w hx hy hl hm
      have q1 := q1 X Y op
      have e3 : xs.toList.toArray = xs := by simp
      have e4 : ys.toList.toArray = ys := by simp
      rw [e3, e4] at q1 q2
      obtain ⟨v, h1, h2⟩ := eqRun (P := P) (N := N) (lam := lam) (w := w) h (fun op ho => by rcases ho with rfl | rfl <;> rfl) q2
      exact ⟨v, runGuard q1 h1, h2⟩
  · next i j =>
    cases q : cBin op i j with
    | none => rw [q] at h; cases h
    | some r =>
      rw [q] at h; cases h
      simp only [REnt] at hA hB
      subst hA hB
      obtain ⟨q1, v, q2, q3⟩ := hF.cbin op i j _ q t N lam w
      exact ⟨v, runGuard (q1 X Y) q2, q3⟩
  · have f1 := hF.bool t
    generalize ty t = r at h f1
    obtain ⟨d, n⟩ := r
    cases d <;> simp only at h <;> first | (cases h; done) | skip
    have hu := f1 _ rfl
    split at h
    · next x y _ hx hy =>
      rw [asB_ok hx hA, asB_ok hy hB]
      have e : cond x y (notB y) = (x == y) := by cases x <;> cases y <;> rfl
      rw [e] at h
      obtain ⟨v, h1, h2⟩ := eqRun (P := P) (N := N) (lam := lam) (w := w) h (fun op ho => by rcases ho with rfl | rfl <;> rfl) (eq_bool hu x y)
      exact ⟨v, runGuard (guard_ok (by simp) (by simp)) h1, h2⟩
    · cases h
end Go.Proofs.YtaekfgbfpfecdaaGreat.VM

/- Closures, built-in functions, and all operations that only reckon or look: what the machine reckons is what the model does; no conditions but those that each theorem names. -/
namespace Go.Proofs.YtaekfgbfpfecdaaGreat.VM
open Go
set_option linter.unusedVariables false
set_option linter.unusedSimpArgs false
variable {P : Program}

theorem fcap_eq (x i : Nat) : fcap x i = 64 * (x / 2 ^ (10 + 22 * i) % 4194304) := by
  have e1 : Nat.land (Nat.shiftRight x (Nat.add 10 (Nat.mul 22 i))) 4194303 = x / 2 ^ (10 + 22 * i) % 4194304 := by
    have : Nat.land (Nat.shiftRight x (Nat.add 10 (Nat.mul 22 i))) 4194303 = (x >>> (10 + 22 * i)) &&& (2 ^ 22 - 1) := rfl
    rw [this, Nat.and_two_pow_sub_one_eq_mod, Nat.shiftRight_eq_div_pow]
  unfold fcap
  rw [e1, shl6]
theorem fcap0 (x : Nat) : fcap x 0 = 64 * (x / 1024 % 4194304) := fcap_eq x 0
theorem fcap1 (x : Nat) : fcap x 1 = 64 * (x / 4294967296 % 4194304) := fcap_eq x 1
theorem capShl (p i : Nat) : Nat.shiftLeft (Nat.shiftRight p 6) (Nat.add 10 (Nat.mul 22 i)) = (p / 64) * 2 ^ (10 + 22 * i) := by
  rw [shr6]
  have : Nat.shiftLeft (p / 64) (Nat.add 10 (Nat.mul 22 i)) = (p / 64) <<< (10 + 22 * i) := rfl
  rw [this, Nat.shiftLeft_eq]
theorem land1023 (x : Nat) : Nat.land x 1023 = x % 1024 := by
  have : Nat.land x 1023 = x &&& (2 ^ 10 - 1) := rfl
  rw [this, Nat.and_two_pow_sub_one_eq_mod]

/-- A captured variable's address. -/
theorem cap_ok {N : Nm} (hp : Pools N) {lam : Nat → Nat} {env : Env} {lo : Lo} {a : Act} {w : World} (hE : RE N lam env lo a w) {x : Operand} {l l' : List K} {nn fl : Bool} {p : Nat}
    (h : evO env x = some (.n (.ptr l' false nn) fl p)) (h1 : beqKs l l' = true) (h2 : cond (Nat.beq p 0) false (Nat.blt p 268435456) = true) :
    p ≠ 0 ∧ p < 268435456 ∧ ∃ g o, a.eval x = .pointer (some ⟨g, o, none⟩) ∧ RP N l false p g o := by
  have hv := evO_ok hp hE h
  simp only [REnt, RSh] at hv
  cases q : Nat.beq p 0 <;> rw [q] at h2
  · simp only [cond_false, blt_eq, decide_eq_true_eq] at h2
    have hp0 : p ≠ 0 := fun e => by rw [e] at q; cases q
    refine ⟨hp0, h2, ?_⟩
    rcases hv.2.1 with ⟨h0, _⟩ | ⟨_, g, o, h3, h4⟩
    · exact absurd h0 hp0
    · rw [beqKs_eq h1]; exact ⟨g, o, h3, h4⟩
  · cases h2

theorem semFunc_ok {N : Nm} (hp : Pools N) {lam : Nat → Nat} {env : Env} {lo : Lo} {a : Act} {w : World} (hE : RE N lam env lo a w) {fn : Fn} {first caps : Array Operand} {chk : Option Bool} {ent : Ent}
    (h : semFunc fn first.toList caps.toList env = some (chk, ent)) (hc : ∀ b, chk = some b → b = true) :
    ∃ v, (Instr.makeFunc fn (first.map a.eval) (caps.map a.eval)).run P w = .ok v w ∧ REnt N lam ent v := by
  obtain ⟨first⟩ := first
  obtain ⟨caps⟩ := caps
  simp only at h
  unfold semFunc at h
  split at h
  · next g =>
    have h0 := cond_some h
    clear h
    obtain ⟨g1, h⟩ := h0
    simp only [Bool.and_eq_true, blt_eq, ble_eq, decide_eq_true_eq] at g1
    obtain ⟨hg, hlen⟩ := g1
    refine ⟨_, rfl, ?_⟩
    split at h
    · next b x hb hx =>
      cases h
      have hfirst : (#[] : Array Operand).map a.eval = #[] := by simp
      simp only [REnt, RSh, RK]
      rw [hfirst]
      have fin : ∀ (vs : Array Value), vs.size = (capT g).length → x % 1024 = g + 1 → x < 2 ^ 64 →
          (∀ i (h : i < (capT g).length) (h' : i < vs.size), ∃ g' o, vs[i] = .pointer (some ⟨g', o, none⟩) ∧ RP N (capT g)[i] false (fcap x i) g' o ∧ fcap x i ≠ 0) →
          x < 2 ^ 64 ∧ RF N x (.func (.func g) #[] vs) := by
        intro vs h1 h2 h3 h4
        exact ⟨h3, .inr ⟨g, vs, by rw [land1023]; exact h2, rfl, h1, h4⟩⟩
      match caps, hlen, hb, hx with
      | [], _, hb, hx =>
        cases hcap : capT g with
        | cons l ls => rw [hcap] at hb; cases hb
        | nil =>
          cases hx
          refine fin _ (by simp [hcap]) ?_ ?_ (fun i hi => by rw [hcap] at hi; simp at hi)
          · exact Nat.mod_eq_of_lt (Nat.lt_of_lt_of_le (Nat.succ_lt_succ hg) (by decide))
          · exact Nat.lt_of_lt_of_le (Nat.succ_lt_succ hg) (by decide)
      | [p], _, hb, hx =>
        cases hcap : capT g with
        | nil => rw [hcap] at hb; cases hb
        | cons l ls =>
          rw [hcap] at hb
          simp only [fnChk, fnN] at hb hx
          split at hb
          · next l' nn fl q hq =>
            rw [hq] at hx
            simp only at hx
            cases hx
            have h0 := cond_some hb
            clear hb
            obtain ⟨k1, hb⟩ := h0
            cases ls with
            | cons => cases hb
            | nil =>
              cases hb
              obtain ⟨c1, c2, g', o, c3, c4⟩ := cap_ok hp hE hq k1 ((andC_ok hc).1 _ rfl)
              obtain ⟨aa, ha, _⟩ := id c4
              have e1 := capShl q 0
              have e2 : Nat.add (Nat.succ g) (Nat.shiftLeft (Nat.shiftRight q 6) (Nat.add 10 (Nat.mul 22 0))) = g + 1 + (q / 64) * 1024 := by
                rw [e1]; rfl
              rw [e2] at fin ⊢
              refine fin _ (by simp [hcap]) (by omega) (by omega) (fun i hi hi' => ?_)
              have hi0 : i = 0 := by rw [hcap] at hi; simp at hi; exact hi
              subst hi0
              have e3 : fcap (g + 1 + q / 64 * 1024) 0 = q := by rw [fcap0]; omega
              rw [e3]
              refine ⟨g', o, by simpa using c3, ?_, c1⟩
              simp only [hcap, List.getElem_cons_zero]
              exact c4
          · cases hb
      | [p, p2], _, hb, hx =>
        cases hcap : capT g with
        | nil => rw [hcap] at hb; cases hb
        | cons l ls =>
          rw [hcap] at hb
          simp only [fnChk, fnN] at hb hx
          split at hb
          · next l' nn fl q hq =>
            rw [hq] at hx
            simp only at hx
            have h0 := cond_some hb
            clear hb
            obtain ⟨k1, hb⟩ := h0
            cases ls with
            | nil => cases hb
            | cons l2 ls =>
              cases hq2 : evO env p2 with
              | none => rw [hq2] at hx; cases hx
              | some e2 =>
              rw [hq2] at hx
              unfold fnChk at hb
              rw [hq2] at hb
              split at hb
              · next b2 hb2 =>
                split at hb2
                · next l2' nn2 fl2 q2 he2 =>
                  injection he2 with he2
                  subst he2
                  have hx := Option.some.inj hx
                  subst hx
                  have h0 := cond_some hb2
                  clear hb2
                  obtain ⟨k2, hb2⟩ := h0
                  cases ls with
                  | cons => cases hb2
                  | nil =>
                    simp only [fnChk] at hb2
                    cases hb2
                    cases hb
                    obtain ⟨d1, d2⟩ := andC_ok hc
                    obtain ⟨c1, c2, g', o, c3, c4⟩ := cap_ok hp hE hq k1 (d1 _ rfl)
                    obtain ⟨b1, b2, g2', o2, b3, b4⟩ := cap_ok hp hE hq2 k2 ((andC_ok d2).1 _ rfl)
                    obtain ⟨aa, ha, _⟩ := id c4
                    obtain ⟨ab, hab, _⟩ := id b4
                    have e1 := capShl q 0
                    have e1' := capShl q2 1
                    have e2 : Nat.add (Nat.add (Nat.succ g) (Nat.shiftLeft (Nat.shiftRight q 6) (Nat.add 10 (Nat.mul 22 0)))) (Nat.shiftLeft (Nat.shiftRight q2 6) (Nat.add 10 (Nat.mul 22 (Nat.succ 0)))) = g + 1 + (q / 64) * 1024 + (q2 / 64) * 4294967296 := by
                      have e1'' : Nat.shiftLeft (Nat.shiftRight q2 6) (Nat.add 10 (Nat.mul 22 (Nat.succ 0))) = q2 / 64 * 2 ^ (10 + 22 * 1) := e1'
                      rw [e1, e1'']; rfl
                    rw [e2] at fin ⊢
                    refine fin _ (by simp [hcap]) (by omega) (by omega) (fun i hi hi' => ?_)
                    have hi2 : i = 0 ∨ i = 1 := by rw [hcap] at hi; simp at hi; omega
                    rcases hi2 with rfl | rfl
                    · have e3 : fcap (g + 1 + q / 64 * 1024 + q2 / 64 * 4294967296) 0 = q := by rw [fcap0]; omega
                      rw [e3]
                      refine ⟨g', o, by simpa using c3, ?_, c1⟩
                      simp only [hcap, List.getElem_cons_zero]
                      exact c4
                    · have e3 : fcap (g + 1 + q / 64 * 1024 + q2 / 64 * 4294967296) 1 = q2 := by rw [fcap1]; omega
                      rw [e3]
                      refine ⟨g2', o2, by simpa using b3, ?_, b1⟩
                      simp only [hcap, List.getElem_cons_succ, List.getElem_cons_zero]
                      exact b4
                · cases hb2
              · cases hb
          · cases hb
      | _ :: _ :: _ :: _, hl, _, _ => simp at hl
    · cases h
  · cases h
end Go.Proofs.YtaekfgbfpfecdaaGreat.VM

/- All operations that only reckon or look: what the machine reckons is what the model does; no conditions but those that each theorem names. -/
namespace Go.Proofs.YtaekfgbfpfecdaaGreat.VM
open Go
set_option linter.unusedVariables false
set_option linter.unusedSimpArgs false
variable {P : Program}

theorem minmax_ok {k : IntKind} {x y : Nat} (mx : Bool) (hx : x < limK k) (hy : y < limK k) : minmax mx k x y < limK k ∧
    decI k (minmax mx k x y) = (if mx then (if decI k y > decI k x then decI k y else decI k x) else (if decI k y < decI k x then decI k y else decI k x)) := by
  unfold minmax
  rw [intLt_ok hx hy]
  by_cases h : decI k x < decI k y
  · rw [decide_eq_true h]
    cases mx <;> simp [hx, hy]
    · omega
    · omega
  · rw [decide_eq_false h]
    cases mx <;> simp [hx, hy]
    · intro; omega
    · intro; omega
theorem fold_ok {N : Nm} (hp : Pools N) {lam : Nat → Nat} {env : Env} {lo : Lo} {a : Act} {w : World} (hE : RE N lam env lo a w) (mx : Bool) {k : IntKind} :
    ∀ (l : List Operand) (acc z : Nat), acc < limK k → foldMM mx k env l acc = some z → z < limK k ∧
      ((l.map a.eval).foldlM (if mx then Builtin.max2 else Builtin.min2) (.int k (decI k acc)) : Sem Value).run P w = .ok (.int k (decI k z)) w
  | [], acc, z, h1, h => by cases h; exact ⟨h1, rfl⟩
  | x :: l, acc, z, h1, h => by
    simp only [foldMM] at h
    split at h
    · next k' fl y he =>
      have h0 := cond_some h
      clear h
      obtain ⟨hk, h⟩ := h0
      have := kidx_eq hk
      subst this
      have hv := evO_ok hp hE he
      simp only [REnt, RSh, RK] at hv
      obtain ⟨_, hv, hy⟩ := hv
      obtain ⟨m1, m2⟩ := minmax_ok mx h1 hy
      obtain ⟨r1, r2⟩ := fold_ok hp hE mx l _ z m1 h
      refine ⟨r1, ?_⟩
      simp only [List.map_cons, List.foldlM_cons, Sem.run_bind]
      rw [hv]
      have : ((if mx then Builtin.max2 else Builtin.min2) (.int k (decI k acc)) (.int k (decI k y)) : Sem Value).run P w = .ok (.int k (decI k (minmax mx k acc y))) w := by
        rw [m2]
        cases mx <;> simp [Builtin.max2, Builtin.min2]
      rw [this]
      exact r2
    · cases h
theorem semMM_ok {N : Nm} (hp : Pools N) {lam : Nat → Nat} {env : Env} {lo : Lo} {a : Act} {w : World} (hE : RE N lam env lo a w) {mx : Bool} {l : List Operand} {chk : Option Bool} {ent : Ent}
    (h : semMM mx env l = some (chk, ent)) : ∃ v, ((if mx then Builtin.max_ else Builtin.min_) #[] 0 (l.map a.eval).toArray).run P w = .ok v w ∧ REnt N lam ent v := by
  cases l with
  | nil => cases h
  | cons x l =>
    simp only [semMM] at h
    split at h
    · next k fl y he =>
      cases hf : foldMM mx k env l y with
      | none => rw [hf] at h; cases h
      | some z =>
        rw [hf] at h; cases h
        have hv := evO_ok hp hE he
        simp only [REnt, RSh, RK] at hv
        obtain ⟨_, hv, hy⟩ := hv
        obtain ⟨r1, r2⟩ := fold_ok (P := P) hp hE mx l y z hy hf
        refine ⟨_, ?_, RInt r1⟩
        cases mx
        · simpa [Builtin.min_, hv] using r2
        · simpa [Builtin.max_, hv] using r2
    · cases h

theorem real_run {w : World} (ts : Array TypeId) (r : TypeId) (k : FloatKind) (x y : Nat) : (Builtin.real_ ts r #[.complex k x y]).run P w = .ok (.float k x) w := rfl
theorem imag_run {w : World} (ts : Array TypeId) (r : TypeId) (k : FloatKind) (x y : Nat) : (Builtin.imag_ ts r #[.complex k x y]).run P w = .ok (.float k y) w := rfl
theorem complex_run {w : World} (ts : Array TypeId) (r : TypeId) (x y : Nat) : (Builtin.complex_ ts r #[.float .f64 x, .float .f64 y]).run P w = .ok (.complex .f64 x y) w := rfl
theorem len_str {w : World} {t r : TypeId} (hu : P.underlying t = some .string) (l : List UInt8) : (Builtin.len_ #[t] r #[.string ⟨l.toArray⟩]).run P w = .ok (.int .i64 (l.length : Int)) w := by
  have hs : (⟨l.toArray⟩ : ByteArray).size = l.length := rfl
  simp [Builtin.len_, run_underlying hu w, goInt, hs]
theorem len_sli {w : World} {t r e : TypeId} (hu : P.underlying t = some (.slice e)) (a : Option Addr) (n c : Nat) : (Builtin.len_ #[t] r #[.slice a n c]).run P w = .ok (.int .i64 (n : Int)) w := by
  simp [Builtin.len_, run_underlying hu w, goInt]
theorem RLen {N : Nm} {lam : Nat → Nat} {fl : Bool} {n : Nat} (h : n < 9223372036854775808) : REnt N lam (.n (.one (.int .i64)) fl n) (.int .i64 (n : Int)) := by
  have := RInt (N := N) (k := .i64) (x := n) (by simp only [limK]; omega)
  rw [dec_i64, if_pos h] at this
  exact this

theorem semBuiltin_ok (hF : Facts P) {N : Nm} (hp : Pools N) {lam : Nat → Nat} {env : Env} {lo : Lo} {a : Act} {w : World} {c : Core} (hR : Rel N c w) (hE : RE N lam env lo a w) {b : Builtin} {tys : Array TypeId} {args : Array Operand} {ty' : TypeId} {cs : Array Bool}
    {chk : Option Bool} {ent : Ent} (h : semBuiltin b tys.toList args.toList env = some (chk, ent)) :
    ∃ v, (builtin b tys ty' cs (args.map a.eval)).run P w = .ok (.value v) w ∧ REnt N lam ent v := by
  obtain ⟨tys⟩ := tys
  obtain ⟨args⟩ := args
  simp only at h
  unfold semBuiltin at h
  split at h
  · split at h
    · next t x =>
      have f1 := hF.str t
      have f2 := hF.sli t
      generalize ty t = r at h f1 f2
      split at h
      · next n fl hh he =>
        cases h
        have hv := evO_ok hp hE he
        have hu := f1 _ rfl
        simp only [REnt, RSh, RK] at hv
        obtain ⟨_, l, hl, hv⟩ := hv
        have hl1 := hl.1
        refine ⟨.int .i64 (l.length : Int), ?_, ?_⟩
        · have := len_str (P := P) (w := w) (r := ty') hu l
          simp [builtin, hv, this]
        · rw [strLen_eq, ← hl1]
          exact RLen (by omega)
      · next el n l fl hh he =>
        cases h
        have hv := evO_ok hp hE he
        have hu := f2 _ _ rfl
        simp only [REnt, RSh] at hv
        have hlt := sln_lt hh
        have hval : ∃ A C, a.eval x = .slice A (sln hh) C := by
          rcases hv.2 with ⟨rfl, q⟩ | ⟨rfl, A, C, q⟩ | ⟨_, g, o, C, _, _, q, _⟩
          · exact ⟨_, _, q⟩
          · exact ⟨_, _, q⟩
          · exact ⟨_, _, q⟩
        obtain ⟨A, C, hval⟩ := hval
        refine ⟨.int .i64 (sln hh : Int), ?_, RLen (by omega)⟩
        have := len_sli (P := P) (w := w) (r := ty') hu A (sln hh) C
        simp [builtin, hval, this]
      · next el n he =>
        cases h
        have hv := evO_ok hp hE he
        have hu := f2 _ _ rfl
        simp only [REnt, zV] at hv
        refine ⟨.int .i64 ((0 : Nat) : Int), ?_, RLen (by omega)⟩
        have := len_sli (P := P) (w := w) (r := ty') hu none 0 0
        simp [builtin, hv, this]
      · next el n i m he =>
        have h0 := cond_some h
        clear h
        obtain ⟨hm, h⟩ := h0
        cases h
        rw [blt_eq, decide_eq_true_eq] at hm
        have hv := evO_ok hp hE he
        have hu := f2 _ _ rfl
        simp only [REnt] at hv
        refine ⟨.int .i64 (m : Int), ?_, RLen (by omega)⟩
        have := len_sli (P := P) (w := w) (r := ty') hu (some ⟨lam i, 0, none⟩) m m
        simp [builtin, hv, this]
      · cases h
    · cases h
  · obtain ⟨v, h1, h2⟩ := semMM_ok (P := P) hp hE h
    simp only [if_true] at h1
    refine ⟨v, ?_, h2⟩
    have e : Builtin.max_ ⟨tys⟩ ty' (args.map a.eval).toArray = Builtin.max_ #[] 0 (args.map a.eval).toArray := rfl
    simp [builtin, e, h1]
  · obtain ⟨v, h1, h2⟩ := semMM_ok (P := P) hp hE h
    simp only [Bool.false_eq_true, if_false] at h1
    refine ⟨v, ?_, h2⟩
    have e : Builtin.min_ ⟨tys⟩ ty' (args.map a.eval).toArray = Builtin.min_ #[] 0 (args.map a.eval).toArray := rfl
    simp [builtin, e, h1]
  · split at h
    · next x =>
      split at h
      · next he =>
        cases h
        have hv := evO_ok hp hE he
        simp only [REnt] at hv
        exact ⟨_, by simp [builtin, hv, show cstV 0 = .complex .f64 0 0 from rfl, real_run]; rfl, rfl⟩
      · next he =>
        cases h
        have hv := evO_ok hp hE he
        simp only [REnt] at hv
        exact ⟨_, by simp [builtin, hv, show cstV 3 = .complex .f64 4696837146684686336 4696837146684686336 from rfl, real_run]; rfl, rfl⟩
      · cases h
    · cases h
  · split at h
    · next x =>
      split at h
      · next he =>
        cases h
        have hv := evO_ok hp hE he
        simp only [REnt] at hv
        exact ⟨_, by simp [builtin, hv, show cstV 0 = .complex .f64 0 0 from rfl, imag_run]; rfl, rfl⟩
      · next he =>
        cases h
        have hv := evO_ok hp hE he
        simp only [REnt] at hv
        exact ⟨_, by simp [builtin, hv, show cstV 3 = .complex .f64 4696837146684686336 4696837146684686336 from rfl, imag_run]; rfl, rfl⟩
      · cases h
    · cases h
  · split at h
    · next x y =>
      split at h
      · next he he2 =>
        cases h
        have hv := evO_ok hp hE he
        have hv2 := evO_ok hp hE he2
        simp only [REnt] at hv hv2
        exact ⟨_, by simp [builtin, hv, hv2, show cstV 1 = .float .f64 0 from rfl, complex_run]; rfl, rfl⟩
      · next he he2 =>
        cases h
        have hv := evO_ok hp hE he
        have hv2 := evO_ok hp hE he2
        simp only [REnt] at hv hv2
        exact ⟨_, by simp [builtin, hv, hv2, show cstV 2 = .float .f64 4696837146684686336 from rfl, complex_run]; rfl, rfl⟩
      · cases h
    · cases h
  · cases h

theorem run_v {α : Type} {w : World} {s : Sem Value} {v : Value} (h : s.run P w = .ok v w) : (do pure (Next.value (← s)) : Sem Next).run P w = .ok (.value v) w := by
  simp only [Sem.run_bind, h, Result.andThen_ok, Sem.run_pure]

/-- ALL OPERATIONS THAT ONLY RECKON OR LOOK. -/
theorem sem_ok (hF : Facts P) {N : Nm} (hp : Pools N) {lam : Nat → Nat} {env : Env} {lo : Lo} {a : Act} {w : World} {c : Core} (hR : Rel N c w) (hE : RE N lam env lo a w) {o : Oper}
    {chk : Option Bool} {ent : Ent} (h : sem o env lo c = some (chk, ent)) (hc : ∀ b, chk = some b → b = true) :
    ∃ v, (execOp a.eval o).run P w = .ok (.value v) w ∧ REnt N lam ent v := by
  unfold sem at h
  split at h
  · next x ho =>
    cases he : evO env x with
    | none => rw [he] at h; cases h
    | some e => rw [he] at h; cases h; exact ⟨_, by simp only [execOp, ho]; rfl, evO_ok hp hE he⟩
  · next x ho =>
    cases he : evO env x with
    | none => rw [he] at h; cases h
    | some e => rw [he] at h; cases h; exact ⟨_, by simp only [execOp, ho]; rfl, evO_ok hp hE he⟩
  · next x y z ho =>
    cases he : evO env x with
    | none => rw [he] at h; cases h
    | some e =>
      rw [he] at h
      simp only at h
      cases hb : asB e with
      | none => rw [hb] at h; cases h
      | some q =>
        rw [hb] at h
        have hq := asB_ok hb (evO_ok hp hE he)
        refine ⟨_, ?_, semPick_ok (w := w) (fun e he => rawO_ok hp hE he) (fun e he => rawO_ok hp hE he) h hc⟩
        simp [execOp, ho, hq, asBool]
  · next t x ho =>
    cases he : evO env x with
    | none => rw [he] at h; cases h
    | some e =>
      rw [he] at h
      obtain ⟨v, h1, h2⟩ := semLoad_ok hF hR hE (evO_ok hp hE he) h hc
      exact ⟨v, by simp only [execOp, ho]; exact run_v (α := Nat) h1, h2⟩
  · next x ho =>
    cases he : evO env x with
    | none => rw [he] at h; cases h
    | some e =>
      rw [he] at h
      exact semNil_ok (P := P) ho (evO_ok hp hE he) h hc
  · next op t x y yt ho =>
    cases he : evO env x with
    | none => rw [he] at h; cases h
    | some e =>
      cases he2 : evO env y with
      | none => rw [he, he2] at h; cases h
      | some e2 =>
        rw [he, he2] at h
        obtain ⟨v, h1, h2⟩ := semBin_ok hF hR (evO_ok hp hE he) (evO_ok hp hE he2) h hc x y
        exact ⟨v, by simp only [execOp, ho]; exact run_v (α := Nat) h1, h2⟩
  · next op t x ho =>
    cases he : evO env x with
    | none => rw [he] at h; cases h
    | some e =>
      rw [he] at h
      obtain ⟨v, h1, h2⟩ := semUn_ok (P := P) (w := w) (evO_ok hp hE he) h
      exact ⟨v, by simp only [execOp, ho]; exact run_v (α := Nat) h1, h2⟩
  · next s d x ho =>
    cases he : evO env x with
    | none => rw [he] at h; cases h
    | some e =>
      rw [he] at h
      obtain ⟨v, h1, h2⟩ := semConv_ok (w := w) hF (evO_ok hp hE he) h hc
      exact ⟨v, by simp only [execOp, ho]; exact run_v (α := Nat) h1, h2⟩
  · next t x f ho =>
    cases he : evO env x with
    | none => rw [he] at h; cases h
    | some e =>
      rw [he] at h
      obtain ⟨v, h1, h2⟩ := semFieldAddr_ok hF hR (evO_ok hp hE he) h hc
      exact ⟨v, by simp only [execOp, ho]; exact run_v (α := Nat) h1, h2⟩
  · next t x f ho =>
    cases he : evO env x with
    | none => rw [he] at h; cases h
    | some e =>
      rw [he] at h
      obtain ⟨v, h1, h2⟩ := semField_ok (w := w) hF (evO_ok hp hE he) h
      exact ⟨v, by simp only [execOp, ho]; exact run_v (α := Nat) h1, h2⟩
  · next t x i ho =>
    cases he : evO env x with
    | none => rw [he] at h; cases h
    | some e =>
      cases he2 : evO env i with
      | none => rw [he, he2] at h; cases h
      | some e2 =>
        rw [he, he2] at h
        obtain ⟨v, h1, h2⟩ := semIndexAddr_ok hF hR (evO_ok hp hE he) (evO_ok hp hE he2) h hc
        exact ⟨v, by simp only [execOp, ho]; exact run_v (α := Nat) h1, h2⟩
  · next t x i ho =>
    cases he : evO env x with
    | none => rw [he] at h; cases h
    | some e =>
      cases he2 : evO env i with
      | none => rw [he, he2] at h; cases h
      | some e2 =>
        rw [he, he2] at h
        obtain ⟨v, h1, h2⟩ := semIndex_ok hF hR (evO_ok hp hE he) (evO_ok hp hE he2) h hc
        exact ⟨v, by simp only [execOp, ho]; exact run_v (α := Nat) h1, h2⟩
  · next t x l m q ho =>
    split at h
    · next e l' m' q' he hl hm hq =>
      obtain ⟨v, h1, h2⟩ := semSlice_ok hF hR (evO_ok hp hE he) (optN_ok hp hE hl) (optN_ok hp hE hm) (optN_ok hp hE hq) h hc
      exact ⟨v, by simp only [execOp, ho]; exact run_v (α := Nat) h1, h2⟩
    · cases h
  · next x i ho =>
    cases he : evO env x with
    | none => rw [he] at h; cases h
    | some e =>
      rw [he] at h
      obtain ⟨v, h1, h2⟩ := semExtract_ok (P := P) (w := w) (evO_ok hp hE he) h
      exact ⟨v, by simp only [execOp, ho]; exact run_v (α := Nat) h1, h2⟩
  · next t ps ho =>
    obtain ⟨v, h1, h2⟩ := semBuild_ok hF hp hR hE h
    exact ⟨v, by simp only [execOp, ho]; exact run_v (α := Nat) h1, h2⟩
  · next fn f cs ho =>
    obtain ⟨v, h1, h2⟩ := semFunc_ok (P := P) hp hE h hc
    exact ⟨v, by simp only [execOp, ho]; exact run_v (α := Nat) h1, h2⟩
  · next cl ho =>
    cases hcl : cl.callee with
    | value f => rw [hcl] at h; cases h
    | invoke r m => rw [hcl] at h; cases h
    | builtin b =>
      rw [hcl] at h
      simp only at h
      obtain ⟨v, h1, h2⟩ := semBuiltin_ok (P := P) (ty' := o.type) (cs := cl.args.map fun | .const _ => true | _ => false) hF hp hR hE h
      refine ⟨v, ?_, h2⟩
      simp only [execOp, ho, resolve, hcl, Sem.run_bind, Sem.run_pure, Result.andThen_ok, invoke]
      exact h1
  · cases h
end Go.Proofs.YtaekfgbfpfecdaaGreat.VM

