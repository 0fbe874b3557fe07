/- The program beside the machine: facts, three functions without a body, the first state; no conditions but those that each theorem names. -/
import Derived.Test.YtaekfgbfpfecdaaGreatChecked
import Derived.Laws.StructEq
import Derived.Laws.Externs
import Derived.OpenShut
import Derived.Test.YtaekfgbfpfecdaaGreatN5

/- The program's types beside the machine's tables; no conditions. -/
namespace Go.Proofs.YtaekfgbfpfecdaaGreat.VM
open Go
set_option linter.unusedVariables false
set_option maxRecDepth 1000000

def allB {α : Type} (f : Nat → α → Bool) : List (Nat × α) → Bool
  | [] => true
  | (a, x) :: l => f a x && allB f l
theorem look_allB {α : Type} {d : α} {f : Nat → α → Bool} (hd : ∀ t, f t d = true) : ∀ (l : List (Nat × α)), allB f l = true → ∀ t, f t (lookN d l t) = true
  | [], _, t => hd t
  | (a, x) :: l, h, t => by
    simp only [allB, Bool.and_eq_true] at h
    simp only [lookN]
    split
    · next e =>
      have : a = t := Nat.eq_of_beq_eq_true e
      subst this; exact h.1
    · exact look_allB hd l h.2 t
def eqFs : List (Nat × Nat) → List (Nat × Nat) → Bool
  | [], [] => true
  | (a, b) :: l, (c, d) :: l' => Nat.beq a c && Nat.beq b d && eqFs l l'
  | _, _ => false
theorem eqFs_eq : ∀ {l l' : List (Nat × Nat)}, eqFs l l' = true → l = l'
  | [], [], _ => rfl
  | [], _ :: _, h => by cases h
  | _ :: _, [], h => by cases h
  | (a, b) :: l, (c, d) :: l', h => by
    simp only [eqFs, Bool.and_eq_true] at h
    rw [Nat.eq_of_beq_eq_true h.1.1, Nat.eq_of_beq_eq_true h.1.2, eqFs_eq h.2]
def eqNs : List Nat → List Nat → Bool
  | [], [] => true
  | a :: l, c :: l' => Nat.beq a c && eqNs l l'
  | _, _ => false
theorem eqNs_eq : ∀ {l l' : List Nat}, eqNs l l' = true → l = l'
  | [], [], _ => rfl
  | [], _ :: _, h => by cases h
  | _ :: _, [], h => by cases h
  | a :: l, c :: l', h => by
    simp only [eqNs, Bool.and_eq_true] at h
    rw [Nat.eq_of_beq_eq_true h.1, eqNs_eq h.2]
noncomputable def rowsOf : List Field → Option (List (Nat × Nat))
  | [] => some []
  | f :: l => match Tryz.prog.info? f.type, rowsOf l with
    | some i, some r => some ((f.offset, i.size) :: r)
    | _, _ => none
theorem rowsOf_eq : ∀ {l : List Field} {r : List (Nat × Nat)}, rowsOf l = some r → l.mapM (fun f => (Tryz.prog.info? f.type).map fun i => (f.offset, i.size)) = some r
  | [], r, h => by
    simp only [rowsOf] at h
    rw [← h]; rfl
  | f :: l, r, h => by
    simp only [rowsOf] at h
    split at h
    · next i r' hi hr =>
      cases h
      rw [List.mapM_cons, rowsOf_eq hr, hi]
      rfl
    · cases h
noncomputable def descB (t : Nat) (d : Ty) (u : TypeDesc) : Bool :=
  match d, u with
  | .int k, .int k' => Nat.beq (kidx k) (kidx k')
  | .bool, .bool => true
  | .str, .string => true
  | .ptr _, .pointer _ => true
  | .sli e, .slice e' => Nat.beq e e'
  | .arr m e, .array m' e' => Nat.beq m m' && Nat.beq e e'
  | .flo, .float .f64 => true
  | .cpx, .complex _ => true
  | .fn, .func _ _ _ => true
  | .st fs, .struct fds => (match rowsOf fds.toList with | some l => eqFs l fs | none => false) && eqNs (fds.toList.map (·.type)) (fieldTys t)
  | _, _ => false
noncomputable def tyB1 (t : Nat) (r : TyR) : Bool :=
  match Tryz.prog.underlying t, Tryz.prog.info? t with
  | some u, some i => descB t r.desc u && Nat.beq i.size r.size
  | _, _ => false
noncomputable def tyB (t : Nat) (r : TyR) : Bool :=
  match r with
  | ⟨.oth, 0⟩ => true
  | _ => tyB1 t r
theorem tyB_all : allB tyB tyTab = true := by kernel_rfl
theorem tyB_ty (t : Nat) : tyB t (ty t) = true := look_allB (fun _ => rfl) tyTab tyB_all t
theorem tyB_desc {t : Nat} {d : Ty} {n : Nat} (h : ty t = ⟨d, n⟩) (hd : d ≠ .oth ∨ n ≠ 0) : ∃ u i, Tryz.prog.underlying t = some u ∧ Tryz.prog.info? t = some i ∧ i.size = n ∧ descB t d u = true := by
  have h1 := tyB_ty t
  rw [h] at h1
  have h2 : tyB1 t ⟨d, n⟩ = true := by
    unfold tyB at h1
    split at h1
    · next e =>
      injection e with e1 e2
      rcases hd with hd | hd
      · exact absurd e1 hd
      · exact absurd e2 hd
    · exact h1
  unfold tyB1 at h2
  split at h2
  · next u i hu hi =>
    rw [Bool.and_eq_true] at h2
    exact ⟨u, i, hu, hi, Nat.eq_of_beq_eq_true h2.2, h2.1⟩
  · cases h2
theorem descB_row {t : Nat} {d : Ty} {u : TypeDesc} (h : descB t d u = true) : u.isRow = d.isRow := by
  unfold descB at h
  split at h <;> first | rfl | cases h
theorem nth_ok : ∀ {l : List Field} {fs : List (Nat × Nat)}, rowsOf l = some fs → ∀ {i o z : Nat}, nthF i fs = some (o, z) →
    ∃ f, l[i]? = some f ∧ f.offset = o ∧ (Tryz.prog.info? f.type).map (·.size) = some z ∧ nthN i (l.map (·.type)) = some f.type
  | [], fs, h, i, o, z, hn => by
    simp only [rowsOf] at h
    cases h
    cases i <;> cases hn
  | f :: l, fs, h, i, o, z, hn => by
    simp only [rowsOf] at h
    split at h
    · next i' r hi hr =>
      cases h
      cases i with
      | zero =>
        simp only [nthF] at hn
        cases hn
        exact ⟨f, rfl, rfl, by rw [hi]; rfl, rfl⟩
      | succ i =>
        simp only [nthF] at hn
        obtain ⟨g, h1, h2, h3, h4⟩ := nth_ok hr hn
        exact ⟨g, h1, h2, h3, h4⟩
    · cases h
/-- Zero. -/
def isZ (k : K) (v : Value) : Bool :=
  match k, v with
  | .int k, .int k' (.ofNat 0) => Nat.beq (kidx k) (kidx k')
  | .opq, .int .u64 (.ofNat 0) => true
  | .bool, .bool false => true
  | .str, .string ⟨⟨[]⟩⟩ => true
  | .ptr _, .pointer none => true
  | .sli _, .slice none 0 0 => true
  | .fn, .nilFunc => true
  | .cst 0, .complex .f64 0 0 => true
  | .cst 1, .float .f64 0 => true
  | _, _ => false
theorem isZ_ok {N : Nm} {k : K} {v : Value} (h : isZ k v = true) : RK N k 0 v := by
  unfold isZ at h
  split at h <;> first | (cases h; done) | skip
  · next k k' =>
    have := kidx_inj (Nat.eq_of_beq_eq_true h)
    subst this
    refine ⟨?_, by cases k <;> decide⟩
    cases k <;> rfl
  · exact ⟨0, rfl, by decide, by decide⟩
  · exact ⟨rfl, by decide⟩
  · exact ⟨[], ⟨rfl, (fun i hi => absurd hi (Nat.not_lt_zero _)), by decide⟩, rfl⟩
  · exact .inl ⟨rfl, rfl⟩
  · exact .inl ⟨rfl, rfl⟩
  · exact .inl ⟨rfl, rfl⟩
  · exact ⟨rfl, rfl⟩
  · exact ⟨rfl, rfl⟩
def allZ : List K → List Value → Bool
  | [], [] => true
  | k :: l, v :: vs => isZ k v && allZ l vs
  | _, _ => false
theorem allZ_ok {N : Nm} : ∀ {l : List K} {vs : List Value}, allZ l vs = true → vs.length = l.length ∧ ∀ j (h : j < l.length) (h' : j < vs.length), RK N l[j] 0 vs[j]
  | [], [], _ => ⟨rfl, fun j h => absurd h (Nat.not_lt_zero _)⟩
  | [], _ :: _, h => by cases h
  | _ :: _, [], h => by cases h
  | k :: l, v :: vs, h => by
    simp only [allZ, Bool.and_eq_true] at h
    obtain ⟨h1, h2⟩ := allZ_ok (N := N) h.2
    refine ⟨by simp [h1], fun j hj hj' => ?_⟩
    cases j with
    | zero => exact isZ_ok h.1
    | succ j => exact h2 j (by simpa using hj) (by simpa using hj')
theorem lane_zero' (j : Nat) : lane 0 j = 0 := by simp [lane]
noncomputable def zeroB (t : Nat) (b : Bool) : Bool :=
  match b with
  | false => true
  | true => match Tryz.prog.info? t with
    | none => false
    | some i => match i.zero with
      | none => false
      | some z => allZ (lay t) z.cells.toList && (match (ty t).desc.isRow, z with | false, _ => true | true, .agg _ => true | _, _ => false)
theorem zeroB_all : allB zeroB zeroTab = true := by kernel_rfl
noncomputable def bytB (t : Nat) (b : Nat) : Bool :=
  match Nat.beq b 10000000 with
  | true => true
  | false => match Tryz.prog.info? t with
    | none => false
    | some i => Nat.beq i.bytes b
theorem bytB_all : allB bytB bytesTab = true := by kernel_rfl
noncomputable def cstB (t : Nat) (v : Value) : Bool := v.oneCell'
theorem cstB_all : allB cstB cstT = true := by kernel_rfl
end Go.Proofs.YtaekfgbfpfecdaaGreat.VM

/- The program's constants and equalities beside the machine's tables; no conditions. -/
namespace Go.Proofs.YtaekfgbfpfecdaaGreat.VM
open Go
set_option linter.unusedVariables false
set_option maxRecDepth 1000000

theorem cst_all (i : Nat) : (cstV i).oneCell' = true := by
  have h : cstB i (lookN Value.nilIface cstT i) = true := look_allB (fun _ => rfl) cstT cstB_all i
  exact h
theorem byt_all (t : Nat) (h : bytesT t < 1048576) : (Tryz.prog.info? t).map (·.bytes) = some (bytesT t) := by
  have h1 : bytB t (bytesT t) = true := look_allB (f := bytB) (fun _ => rfl) bytesTab bytB_all t
  unfold bytB at h1
  split at h1
  · next e => have := Nat.eq_of_beq_eq_true e; omega
  · split at h1
    · cases h1
    · next i hi => rw [hi]; simp [Nat.eq_of_beq_eq_true h1]
theorem zero_all (t : Nat) (h : zeroOk t = true) : ∃ i z, Tryz.prog.info? t = some i ∧ i.zero = some z ∧ (∀ (N : Nm) (c : Core) (w : World), Rel N c w → RL N (lay t) 0 z.cells.toList) ∧ ((ty t).desc.isRow = true → ∃ cs, z = .agg cs) := by
  have h1 : zeroB t (zeroOk t) = true := look_allB (f := zeroB) (fun _ => rfl) zeroTab zeroB_all t
  rw [h] at h1
  unfold zeroB at h1
  split at h1
  · next e => cases e
  · split at h1
    · cases h1
    · next i hi =>
      split at h1
      · cases h1
      · next z hz =>
        rw [Bool.and_eq_true] at h1
        refine ⟨i, z, hi, hz, fun N c w _ => ?_, fun hr => ?_⟩
        · obtain ⟨h2, h3⟩ := allZ_ok (N := N) h1.1
          exact ⟨h2, fun j a b => by rw [lane_zero']; exact h3 j a b⟩
        · have h4 := h1.2
          rw [hr] at h4
          cases z <;> first | exact ⟨_, rfl⟩ | cases h4
theorem cbin_all : ∀ op i j r, cBin op i j = some r → ∀ (t : TypeId) (N : Nm) (lam : Nat → Nat) (w : World), (∀ X Y, (eqGuard op t X Y (cstV i) (cstV j)).run Tryz.prog w = .ok () w) ∧ ∃ v, (binOp op t (cstV i) (cstV j)).run Tryz.prog w = .ok v w ∧ REnt N lam r v := by
  intro op i j r h t N lam w
  unfold cBin at h
  split at h <;> first | (cases h; done) | skip
  all_goals
    cases h
    refine ⟨fun X Y => by kernel_rfl, ?_⟩
  · exact ⟨cstV 0, by kernel_rfl, rfl⟩
  · exact ⟨cstV 3, by kernel_rfl, rfl⟩
  · exact ⟨cstV 0, by kernel_rfl, rfl⟩
  · exact ⟨cstV 0, by kernel_rfl, rfl⟩
  · exact ⟨.bool true, by kernel_rfl, rfl⟩
  · exact ⟨.bool true, by kernel_rfl, rfl⟩
  · exact ⟨.bool true, by kernel_rfl, rfl⟩
  · exact ⟨.bool true, by kernel_rfl, rfl⟩
end Go.Proofs.YtaekfgbfpfecdaaGreat.VM

/- Two structs that are compared; no conditions. -/
namespace Go.Proofs.YtaekfgbfpfecdaaGreat.VM
open Go
set_option linter.unusedVariables false
set_option maxRecDepth 1000000
theorem eqF_cons {d : Nat} {xs ys : Array Value} {f : Field} {fs : List Field} {w : World} {t : TypeId} {o : Nat} {v v' : Value} {b : Bool} (hn : (f.name == "_") = false) (ht : f.type = t) (ho : f.offset = o)
    (h1 : (part t xs o).run Tryz.prog w = .ok v w) (h2 : (part t ys o).run Tryz.prog w = .ok v' w) (he : (Op.equalIn d t v v').run Tryz.prog w = .ok b w) :
    (Op.eqFields d xs ys (f :: fs)).run Tryz.prog w = cond b ((Op.eqFields d xs ys fs).run Tryz.prog w) (.ok false w) := by
  subst ht; subst ho
  have hn' : f.name ≠ "_" := by intro e; rw [e] at hn; simp at hn
  simp only [Op.eqFields, Sem.run_ite, hn', ne_eq, not_false_eq_true, if_true, Sem.run_bind, h1, h2, he, Result.andThen_ok]
  cases b <;> simp [Sem.run_pure]
theorem eqF_nil {d : Nat} {xs ys : Array Value} {w : World} : (Op.eqFields d xs ys []).run Tryz.prog w = .ok true w := by simp [Op.eqFields]
noncomputable def fldOf (t i : Nat) : Field := (Tryz.prog.fieldsOf t).toList.getD i ⟨ "", 0, 0, false, "", "", 0⟩
theorem eq_int {d : Nat} {t : TypeId} {k : IntKind} {k' : IntKind} {a b : Int} {w : World} (h : Tryz.prog.underlying t = some (.int k')) : (Op.equalIn (d + 1) t (.int k a) (.int k b)).run Tryz.prog w = .ok (a == b) w := run_equalIn_int w d t k k' a b h
theorem eq_44 {d : Nat} {a b a' b' : Int} {w : World} : (Op.equalIn (d + 2) 44 (.agg #[.int .u32 a, .int .u16 b]) (.agg #[.int .u32 a', .int .u16 b'])).run Tryz.prog w = .ok (cond (a == a') (b == b') false) w := by
  have hS : Tryz.prog.underlying 44 = some (.struct (Tryz.prog.fieldsOf 44)) := by kernel_rfl
  have hp : Tryz.prog.stoodInHeld 44 = false := by kernel_rfl
  have hl : (Tryz.prog.fieldsOf 44).toList = [fldOf 44 0, fldOf 44 1] := by kernel_rfl
  rw [run_equalIn_agg w (d + 1) 44 _ _ hS hp, hl]
  rw [eqF_cons (t := 41) (o := 0) (by kernel_rfl) (by kernel_rfl) (by kernel_rfl) (v := .int .u32 a) (v' := .int .u32 a') (by kernel_rfl) (by kernel_rfl) (eq_int (k' := .u32) (by kernel_rfl)),
    eqF_cons (t := 42) (o := 1) (by kernel_rfl) (by kernel_rfl) (by kernel_rfl) (v := .int .u16 b) (v' := .int .u16 b') (by kernel_rfl) (by kernel_rfl) (eq_int (k' := .u16) (by kernel_rfl)), eqF_nil]
  cases a == a' <;> cases b == b' <;> rfl
theorem eq_80 {d : Nat} {a b c a' b' c' : Int} {w : World} : (Op.equalIn (d + 3) 80 (.agg #[.int .u32 a, .int .u16 b, .int .i64 c]) (.agg #[.int .u32 a', .int .u16 b', .int .i64 c'])).run Tryz.prog w = .ok (cond (a == a') (cond (b == b') (c == c') false) false) w := by
  have hS : Tryz.prog.underlying 80 = some (.struct (Tryz.prog.fieldsOf 80)) := by kernel_rfl
  have hp : Tryz.prog.stoodInHeld 80 = false := by kernel_rfl
  have hl : (Tryz.prog.fieldsOf 80).toList = [fldOf 80 0, fldOf 80 1] := by kernel_rfl
  rw [run_equalIn_agg w (d + 2) 80 _ _ hS hp, hl]
  rw [eqF_cons (t := 44) (o := 0) (by kernel_rfl) (by kernel_rfl) (by kernel_rfl) (v := .agg #[.int .u32 a, .int .u16 b]) (v' := .agg #[.int .u32 a', .int .u16 b']) (by kernel_rfl) (by kernel_rfl) eq_44,
    eqF_cons (t := 3) (o := 2) (by kernel_rfl) (by kernel_rfl) (by kernel_rfl) (v := .int .i64 c) (v' := .int .i64 c') (by kernel_rfl) (by kernel_rfl) (eq_int (k' := .i64) (by kernel_rfl)), eqF_nil]
  cases a == a' <;> cases b == b' <;> cases c == c' <;> rfl
theorem eq_53 {d : Nat} {p q r a b p' q' r' a' b' : Int} {w : World} : (Op.equalIn (d + 3) 53 (.agg #[.int .i64 p, .int .i64 q, .int .u32 r, .int .u32 a, .int .u16 b]) (.agg #[.int .i64 p', .int .i64 q', .int .u32 r', .int .u32 a', .int .u16 b'])).run Tryz.prog w =
    .ok (cond (p == p') (cond (q == q') (cond (r == r') (cond (a == a') (b == b') false) false) false) false) w := by
  have hS : Tryz.prog.underlying 53 = some (.struct (Tryz.prog.fieldsOf 53)) := by kernel_rfl
  have hp : Tryz.prog.stoodInHeld 53 = false := by kernel_rfl
  have hl : (Tryz.prog.fieldsOf 53).toList = [fldOf 53 0, fldOf 53 1, fldOf 53 2, fldOf 53 3] := by kernel_rfl
  rw [run_equalIn_agg w (d + 2) 53 _ _ hS hp, hl]
  rw [eqF_cons (t := (fldOf 53 0).type) (o := 0) (by kernel_rfl) (by kernel_rfl) (by kernel_rfl) (v := .int .i64 p) (v' := .int .i64 p') (by kernel_rfl) (by kernel_rfl) (eq_int (k' := .i64) (by kernel_rfl)),
    eqF_cons (t := (fldOf 53 1).type) (o := 1) (by kernel_rfl) (by kernel_rfl) (by kernel_rfl) (v := .int .i64 q) (v' := .int .i64 q') (by kernel_rfl) (by kernel_rfl) (eq_int (k' := .i64) (by kernel_rfl)),
    eqF_cons (t := (fldOf 53 2).type) (o := 2) (by kernel_rfl) (by kernel_rfl) (by kernel_rfl) (v := .int .u32 r) (v' := .int .u32 r') (by kernel_rfl) (by kernel_rfl) (eq_int (k' := .u32) (by kernel_rfl)),
    eqF_cons (t := 44) (o := 3) (by kernel_rfl) (by kernel_rfl) (by kernel_rfl) (v := .agg #[.int .u32 a, .int .u16 b]) (v' := .agg #[.int .u32 a', .int .u16 b']) (by kernel_rfl) (by kernel_rfl) eq_44, eqF_nil]
  cases p == p' <;> cases q == q' <;> cases r == r' <;> cases a == a' <;> cases b == b' <;> rfl
end Go.Proofs.YtaekfgbfpfecdaaGreat.VM

/- The program's facts, together; no conditions. -/
namespace Go.Proofs.YtaekfgbfpfecdaaGreat.VM
open Go
set_option linter.unusedVariables false
set_option maxRecDepth 1000000
theorem lane_step (x n : Nat) (h : x < 2 ^ (64 * (n + 1))) : x = lane x 0 + 2 ^ 64 * (x / 2 ^ 64) ∧ x / 2 ^ 64 < 2 ^ (64 * n) ∧ ∀ j, lane x (j + 1) = lane (x / 2 ^ 64) j := by
  refine ⟨?_, ?_, fun j => ?_⟩
  · have : lane x 0 = x % 2 ^ 64 := by simp [lane]
    rw [this]; omega
  · rw [Nat.div_lt_iff_lt_mul (Nat.two_pow_pos _), ← Nat.pow_add]
    exact h
  · simp only [lane]
    rw [Nat.div_div_eq_div_mul, ← Nat.pow_add, show 64 + 64 * j = 64 * (j + 1) from by omega]
theorem lanes_eq : ∀ (n x y : Nat), x < 2 ^ (64 * n) → y < 2 ^ (64 * n) → (∀ j, j < n → lane x j = lane y j) → x = y
  | 0, x, y, hx, hy, _ => by simp at hx hy; omega
  | n + 1, x, y, hx, hy, h => by
    obtain ⟨a1, a2, a3⟩ := lane_step x n hx
    obtain ⟨b1, b2, b3⟩ := lane_step y n hy
    have h0 := h 0 (by omega)
    have := lanes_eq n (x / 2 ^ 64) (y / 2 ^ 64) a2 b2 (fun j hj => by rw [← a3, ← b3]; exact h (j + 1) (by omega))
    rw [a1, b1, h0, this]
theorem beq_ff {x y : Nat} (h : x ≠ y) : Nat.beq x y = false := by
  cases e : Nat.beq x y with
  | false => rfl
  | true => exact absurd (Nat.eq_of_beq_eq_true e) h
def eqLs : Nat → Nat → List K → Nat → Bool
  | _, _, [], _ => true
  | x, y, _ :: l, j => cond (Nat.beq (lane x j) (lane y j)) (eqLs x y l (j + 1)) false
theorem eqLs_iff : ∀ (l : List K) (x y j : Nat), eqLs x y l j = true ↔ ∀ i, i < l.length → lane x (j + i) = lane y (j + i)
  | [], x, y, j => by simp [eqLs]
  | k :: l, x, y, j => by
    simp only [eqLs]
    constructor
    · intro h i hi
      obtain ⟨h1, h2⟩ := condT h
      cases i with
      | zero => exact Nat.eq_of_beq_eq_true h1
      | succ i =>
        have := (eqLs_iff l x y (j + 1)).1 h2 i (by simpa using hi)
        rw [show j + (i + 1) = j + 1 + i from by omega]; exact this
    · intro h
      have h0 : Nat.beq (lane x j) (lane y j) = true := by
        have := h 0 (by simp)
        rw [Nat.add_zero] at this
        rw [this]; exact Nat.beq_refl _
      rw [h0]
      refine (eqLs_iff l x y (j + 1)).2 fun i hi => ?_
      rw [show j + 1 + i = j + (i + 1) from by omega]
      exact h (i + 1) (by simpa using hi)
theorem eqLs_beq {l : List K} {x y : Nat} (hx : x < 2 ^ (64 * l.length)) (hy : y < 2 ^ (64 * l.length)) : eqLs x y l 0 = Nat.beq x y := by
  cases h : Nat.beq x y with
  | true =>
    have := Nat.eq_of_beq_eq_true h
    subst this
    exact (eqLs_iff l x x 0).2 fun _ _ => rfl
  | false =>
    cases h2 : eqLs x y l 0 with
    | false => rfl
    | true =>
      have h3 := lanes_eq l.length x y hx hy (fun j hj => by have := (eqLs_iff l x y 0).1 h2 j hj; rwa [Nat.zero_add] at this)
      subst h3
      rw [Nat.beq_refl] at h; cases h
theorem ints_of {N : Nm} : ∀ {ks : List IntKind} {x : Nat} {vs : List Value}, RL N (ks.map .int) x vs → vs.length = ks.length ∧ ∀ j (h : j < ks.length), vs[j]? = some (.int ks[j] (decI ks[j] (lane x j))) ∧ lane x j < limK ks[j] := by
  intro ks x vs h
  have hl : vs.length = ks.length := by simpa using h.1
  refine ⟨hl, fun j hj => ?_⟩
  have := h.2 j (by simpa using hj) (by omega)
  simp only [List.getElem_map, RK] at this
  rw [List.getElem?_eq_getElem (by omega)]
  exact ⟨by rw [this.1], this.2⟩
theorem eq_all : ∀ t m, eqTy t = some m → ∀ (N : Nm) (x y : Nat) (xs ys : List Value) (w : World), x < 2 ^ (64 * m.length) → y < 2 ^ (64 * m.length) → RL N m x xs → RL N m y ys →
    (∀ X Y op, (eqGuard op t X Y (.agg xs.toArray) (.agg ys.toArray)).run Tryz.prog w = .ok () w) ∧ (Op.equal t (.agg xs.toArray) (.agg ys.toArray)).run Tryz.prog w = .ok (Nat.beq x y) w := by
  intro t m h N x y xs ys w hx hy rx ry
  have hc : (t = 44 ∧ m = [IntKind.u32, .u16].map .int) ∨ (t = 53 ∧ m = [IntKind.i64, .i64, .u32, .u32, .u16].map .int) ∨ (t = 80 ∧ m = [IntKind.u32, .u16, .i64].map .int) := by
    simp only [eqTy, eqTab, lookN] at h
    split at h
    · next e => cases h; exact .inl ⟨(Nat.eq_of_beq_eq_true e).symm, rfl⟩
    · split at h
      · next e => cases h; exact .inr (.inl ⟨(Nat.eq_of_beq_eq_true e).symm, rfl⟩)
      · split at h
        · next e => cases h; exact .inr (.inr ⟨(Nat.eq_of_beq_eq_true e).symm, rfl⟩)
        · cases h
  rcases hc with ⟨rfl, rfl⟩ | ⟨rfl, rfl⟩ | ⟨rfl, rfl⟩
  · refine ⟨fun X Y op => run_eqGuard_agg w op 44 X Y _ _ (by kernel_rfl), ?_⟩
    rw [← eqLs_beq hx hy]
    obtain ⟨lx, ax⟩ := ints_of rx
    obtain ⟨ly, ay⟩ := ints_of ry
    obtain ⟨x0, p0⟩ := ax 0 (by decide); obtain ⟨x1, p1⟩ := ax 1 (by decide)
    obtain ⟨y0, q0⟩ := ay 0 (by decide); obtain ⟨y1, q1⟩ := ay 1 (by decide)
    match xs, lx with
    | [_, _], _ =>
    match ys, ly with
    | [_, _], _ =>
    cases x0; cases x1; cases y0; cases y1
    refine (eq_44 (d := 9998)).trans ?_
    rw [dec_beq p0 q0, dec_beq p1 q1]
    simp only [eqLs, List.map]
    cases Nat.beq (lane x 0) (lane y 0) <;> cases Nat.beq (lane x 1) (lane y 1) <;> rfl
  · refine ⟨fun X Y op => run_eqGuard_agg w op 53 X Y _ _ (by kernel_rfl), ?_⟩
    rw [← eqLs_beq hx hy]
    obtain ⟨lx, ax⟩ := ints_of rx
    obtain ⟨ly, ay⟩ := ints_of ry
    obtain ⟨x0, p0⟩ := ax 0 (by decide); obtain ⟨x1, p1⟩ := ax 1 (by decide); obtain ⟨x2, p2⟩ := ax 2 (by decide); obtain ⟨x3, p3⟩ := ax 3 (by decide); obtain ⟨x4, p4⟩ := ax 4 (by decide)
    obtain ⟨y0, q0⟩ := ay 0 (by decide); obtain ⟨y1, q1⟩ := ay 1 (by decide); obtain ⟨y2, q2⟩ := ay 2 (by decide); obtain ⟨y3, q3⟩ := ay 3 (by decide); obtain ⟨y4, q4⟩ := ay 4 (by decide)
    match xs, lx with
    | [_, _, _, _, _], _ =>
    match ys, ly with
    | [_, _, _, _, _], _ =>
    cases x0; cases x1; cases x2; cases x3; cases x4; cases y0; cases y1; cases y2; cases y3; cases y4
    refine (eq_53 (d := 9997)).trans ?_
    rw [dec_beq p0 q0, dec_beq p1 q1, dec_beq p2 q2, dec_beq p3 q3, dec_beq p4 q4]
    simp only [eqLs, List.map]
    cases Nat.beq (lane x 0) (lane y 0) <;> cases Nat.beq (lane x 1) (lane y 1) <;> cases Nat.beq (lane x 2) (lane y 2) <;> cases Nat.beq (lane x 3) (lane y 3) <;> cases Nat.beq (lane x 4) (lane y 4) <;> rfl
  · refine ⟨fun X Y op => run_eqGuard_agg w op 80 X Y _ _ (by kernel_rfl), ?_⟩
    rw [← eqLs_beq hx hy]
    obtain ⟨lx, ax⟩ := ints_of rx
    obtain ⟨ly, ay⟩ := ints_of ry
    obtain ⟨x0, p0⟩ := ax 0 (by decide); obtain ⟨x1, p1⟩ := ax 1 (by decide); obtain ⟨x2, p2⟩ := ax 2 (by decide)
    obtain ⟨y0, q0⟩ := ay 0 (by decide); obtain ⟨y1, q1⟩ := ay 1 (by decide); obtain ⟨y2, q2⟩ := ay 2 (by decide)
    match xs, lx with
    | [_, _, _], _ =>
    match ys, ly with
    | [_, _, _], _ =>
    cases x0; cases x1; cases x2; cases y0; cases y1; cases y2
    refine (eq_80 (d := 9997)).trans ?_
    rw [dec_beq p0 q0, dec_beq p1 q1, dec_beq p2 q2]
    simp only [eqLs, List.map]
    cases Nat.beq (lane x 0) (lane y 0) <;> cases Nat.beq (lane x 1) (lane y 1) <;> cases Nat.beq (lane x 2) (lane y 2) <;> rfl
theorem row_of {t : Nat} {u : TypeDesc} {d : Ty} (h : descB t d u = true) : u.isRow = d.isRow := descB_row h
theorem facts : Facts Tryz.prog where
  size t h := by
    cases hr : ty t with
    | mk d n =>
      rw [hr] at h
      obtain ⟨u, i, hu, hi, hs, hd⟩ := tyB_desc hr (.inr (by simp only at h; omega))
      exact ⟨by rw [hi]; simp [hs], u, hu, descB_row hd⟩
  int t k n h := by
    obtain ⟨u, i, hu, hi, hs, hd⟩ := tyB_desc h (.inl (by intro e; cases e))
    cases u <;> simp only [descB] at hd <;> first | (cases hd; done) | skip
    rw [hu, kidx_inj (Nat.eq_of_beq_eq_true hd)]
  bool t n h := by
    obtain ⟨u, i, hu, hi, hs, hd⟩ := tyB_desc h (.inl (by intro e; cases e))
    cases u <;> simp only [descB] at hd <;> first | (cases hd; done) | exact hu
  str t n h := by
    obtain ⟨u, i, hu, hi, hs, hd⟩ := tyB_desc h (.inl (by intro e; cases e))
    cases u <;> simp only [descB] at hd <;> first | (cases hd; done) | exact hu
  ptr t e n h := by
    obtain ⟨u, i, hu, hi, hs, hd⟩ := tyB_desc h (.inl (by intro e; cases e))
    cases u <;> simp only [descB] at hd <;> first | (cases hd; done) | exact ⟨_, hu⟩
  sli t e n h := by
    obtain ⟨u, i, hu, hi, hs, hd⟩ := tyB_desc h (.inl (by intro e; cases e))
    cases u <;> simp only [descB] at hd <;> first | (cases hd; done) | skip
    rw [hu, Nat.eq_of_beq_eq_true hd]
  arr t m e n h := by
    obtain ⟨u, i, hu, hi, hs, hd⟩ := tyB_desc h (.inl (by intro e; cases e))
    cases u <;> simp only [descB] at hd <;> first | (cases hd; done) | skip
    rw [Bool.and_eq_true] at hd
    rw [hu, Nat.eq_of_beq_eq_true hd.1, Nat.eq_of_beq_eq_true hd.2]
  flo t n h := by
    obtain ⟨u, i, hu, hi, hs, hd⟩ := tyB_desc h (.inl (by intro e; cases e))
    cases u <;> simp only [descB] at hd <;> first | (cases hd; done) | skip
    next k => cases k <;> first | exact hu | cases hd
  fn t n h := by
    obtain ⟨u, i, hu, hi, hs, hd⟩ := tyB_desc h (.inl (by intro e; cases e))
    cases u <;> simp only [descB] at hd <;> first | (cases hd; done) | exact ⟨_, _, _, hu⟩
  st t fs n h := by
    obtain ⟨u, i, hu, hi, hs, hd⟩ := tyB_desc h (.inl (by intro e; cases e))
    cases u <;> simp only [descB] at hd <;> first | (cases hd; done) | skip
    next fds =>
    rw [Bool.and_eq_true] at hd
    obtain ⟨h1, h2⟩ := hd
    split at h1
    · next l hl =>
      have := eqFs_eq h1
      subst this
      refine ⟨fds, hu, rowsOf_eq hl, fun i o z hn => ?_⟩
      obtain ⟨f, f1, f2, f3, f4⟩ := nth_ok hl hn
      refine ⟨f, by rw [← Array.getElem?_toList]; exact f1, f2, f3, ?_⟩
      rw [← eqNs_eq h2]; exact f4
    · cases h1
  zero := zero_all
  eq := eq_all
  cbin := cbin_all
  cst := cst_all
  byt := byt_all
end Go.Proofs.YtaekfgbfpfecdaaGreat.VM

/- Three functions without a body, on the machine; no conditions. -/
namespace Go.Proofs.YtaekfgbfpfecdaaGreat.VM
open Go
set_option linter.unusedVariables false
set_option maxRecDepth 1000000
theorem mixed : Tryz.prog.follows .mixedOrders = true := by kernel_rfl
theorem callTo_val {g : FuncId} {args : Array Value} {w : World} {v : Value} (h : (callFunc g args).run Tryz.prog w = .ok (.value v) w) {R : Value → World → Prop} (hR : R v w) : CallTo Tryz.prog g args w R := by
  unfold CallTo; rw [h]; exact hR
theorem post_same {G : Nat → Prop} {N : Nm} {c : Core} {w : World} {s : Sh} {x : Nat} {v : Value} (h : Rel N c w) (ho : Off G N) (hr : RSh N s x v) : Post G N w [s] [x] c v w :=
  ⟨N, Ext.refl N, h, ho, Same.refl G w, Nat.le_refl _, .inl ⟨s, x, rfl, rfl, hr⟩⟩
noncomputable def sf149 : FT 1 1 := fun x m t s d k => k 0 m t s d
noncomputable def e149 : FunE := ⟨[.one (.cst 1)], [.one (.cst 1)], wrapF 1 1 sf149⟩
theorem ok149 : FunOK Tryz.prog 149 e149 := by
  intro l c hl
  match l, hl with
  | [x], _ =>
  refine .inr ⟨[0], c, fun k => by cases c; rfl, rfl, ?_⟩
  intro G N w vs rel pools off inn hr
  match vs, hr with
  | [v], hr =>
  have hv : v = cstV 1 := hr.1.2.1
  subst hv
  refine callTo_val (v := cstV 1) ?_ (post_same rel off ⟨by decide, rfl, rfl⟩)
  exact (run_callFunc_extern (e := Extern.MathFloor.toIntegral "math.archFloor" .down) Tryz.func149 (by kernel_rfl) (by kernel_rfl) (by kernel_rfl) (by kernel_rfl) _ _).trans (by kernel_rfl)
noncomputable def sf310 : FT 1 1 := fun x m t s d k => k 0 m t s d
noncomputable def e310 : FunE := ⟨[.one (.cst 1)], [.one (.int .u64)], wrapF 1 1 sf310⟩
theorem ok310 : FunOK Tryz.prog 310 e310 := by
  intro l c hl
  match l, hl with
  | [x], _ =>
  refine .inr ⟨[0], c, fun k => by cases c; rfl, rfl, ?_⟩
  intro G N w vs rel pools off inn hr
  match vs, hr with
  | [v], hr =>
  have hv : v = cstV 1 := hr.1.2.1
  subst hv
  have hlt : 0 < limK .u64 := Nat.lt_of_lt_of_le (Nat.zero_lt_one) (Nat.le_of_ble_eq_true (by kernel_rfl))
  have hr' : RSh N (.one (.int .u64)) 0 (.int .u64 (decI .u64 0)) := RInt hlt
  have hp : Post G N w [.one (.int .u64)] [0] c (.int .u64 (decI .u64 0)) w := post_same rel off hr'
  suffices hc : (callFunc 310 [cstV 1].toArray).run Tryz.prog w = .ok (.value (.int .u64 (decI .u64 0))) w from callTo_val hc hp
  have he : Extern.find Tryz.f310 = some Extern.MathFloatBits.float64bits := by kernel_rfl
  have hn : Extern.findNext Tryz.f310 = none := by kernel_rfl
  have h1 : (Tryz.f310.name == "runtime.NumGoroutine") = false := by kernel_rfl
  have h2 : Tryz.f310.body.isNone = true := by kernel_rfl
  have h3 : ((Extern.MathFloatBits.float64bits [cstV 1].toArray).run Tryz.prog w).andThen (fun v w' => Result.ok (Next.value v) w') = .ok (.value (.int .u64 (decI .u64 0))) w := by kernel_rfl
  exact (run_callFunc_extern Tryz.func310 h1 h2 hn he [cstV 1].toArray w).trans h3
/-- The first place of a byte in a string: the machine's own way. -/
noncomputable def sf342 : FT 2 1 := fun x y m t s d k =>
  force (Nat.land x 65535) fun n => (loopN (Nat.succ n) (fun (_ : Nat) => false) (fun L (i : Nat) =>
    R.ifB (Nat.ble n i) (k 18446744073709551615 m t s d) <| R.ifB (Nat.beq (Nat.land (Nat.shiftRight s (Nat.add (Nat.shiftRight x 16) (Nat.shiftLeft i 3))) 255) y) (k i m t s d) <| force (Nat.succ i) fun i => L i)) 0
noncomputable def e342 : FunE := ⟨[.one .str, .one (.int .u8)], [.one (.int .i64)], wrapF 2 1 sf342⟩
def findFrom (p : Nat → Bool) : Nat → Nat → Option Nat
  | 0, _ => none
  | n + 1, i => cond (p i) (some i) (findFrom p n (i + 1))
theorem find_from (p : Nat → Bool) : ∀ n i, (List.range' i n).find? p = findFrom p n i
  | 0, i => rfl
  | n + 1, i => by
    rw [List.range'_succ, List.find?_cons, findFrom, find_from p n (i + 1)]
    cases p i <;> rfl
def outOf (o : Option Nat) : Nat := match o with | some j => j | none => 18446744073709551615
theorem loop_find (p : Nat → Bool) (kk : Nat → Bool) (n : Nat) : ∀ f i, i + f = n → (loopN (Nat.succ f) (fun (_ : Nat) => false) (fun L (i : Nat) =>
    R.ifB (Nat.ble n i) (kk 18446744073709551615) <| R.ifB (p i) (kk i) <| force (Nat.succ i) fun i => L i)) i = kk (outOf (findFrom p f i))
  | 0, i, h => by
    have : Nat.ble n i = true := Nat.ble_eq_true_of_le (by omega)
    show R.ifB (Nat.ble n i) _ _ = _
    rw [this]; rfl
  | f + 1, i, h => by
    have hb : Nat.ble n i = false := by
      cases e : Nat.ble n i with
      | false => rfl
      | true => have := Nat.le_of_ble_eq_true e; omega
    show R.ifB (Nat.ble n i) _ _ = _
    rw [hb]
    show R.ifB (p i) _ _ = _
    rw [findFrom]
    cases p i with
    | true => rfl
    | false => exact loop_find p kk n f (i + 1) (by omega)
theorem sf342_eq (x y m t s d : Nat) (k : Nat → Nat → Nat → Nat → Nat → Bool) :
    sf342 x y m t s d k = k (outOf (findFrom (fun i => Nat.beq (Nat.land (Nat.shiftRight s (Nat.add (Nat.shiftRight x 16) (Nat.shiftLeft i 3))) 255) y) (Nat.land x 65535) 0)) m t s d := by
  unfold sf342
  rw [force_eq]
  exact loop_find (fun i => Nat.beq (Nat.land (Nat.shiftRight s (Nat.add (Nat.shiftRight x 16) (Nat.shiftLeft i 3))) 255) y) (fun r => k r m t s d) (Nat.land x 65535) (Nat.land x 65535) 0 (by omega)
theorem find_congr {p q : Nat → Bool} : ∀ n i, (∀ j, i ≤ j → j < i + n → p j = q j) → findFrom p n i = findFrom q n i
  | 0, i, _ => rfl
  | n + 1, i, h => by
    rw [findFrom, findFrom, h i (Nat.le_refl _) (by omega), find_congr n (i + 1) (fun j a b => h j (by omega) (by omega))]
theorem find_lt {p : Nat → Bool} : ∀ n i j, findFrom p n i = some j → j < i + n
  | 0, i, j, h => by cases h
  | n + 1, i, j, h => by
    rw [findFrom] at h
    cases hp : p i with
    | true => rw [hp] at h; cases h; omega
    | false =>
      rw [hp] at h
      have := find_lt n (i + 1) j h
      omega
theorem ok342 : FunOK Tryz.prog 342 e342 := by
  intro l c hl
  match l, hl with
  | [x, y], _ =>
  refine .inr ⟨[outOf (findFrom (fun i => Nat.beq (Nat.land (Nat.shiftRight c.s (Nat.add (Nat.shiftRight x 16) (Nat.shiftLeft i 3))) 255) y) (Nat.land x 65535) 0)], c, fun k => sf342_eq x y c.m c.t c.s c.d (fun r m t s d => k [r] ⟨m, t, s, d⟩), rfl, ?_⟩
  intro G N w vs rel pools off inn hr
  match vs, hr with
  | [v, u], hr =>
  obtain ⟨⟨hx64, bs, hs, hv⟩, ⟨hy64, hu, hy⟩, _⟩ := hr
  subst hv; subst hu
  have hb := rel.bytes hs
  have e1 : Nat.land x 65535 = x % 65536 := strLen_eq x
  rw [e1]
  generalize hF : findFrom _ (x % 65536) 0 = F
  have hlen := hs.1
  have hfx : firstIdx ⟨bs.toArray⟩ (decI .u8 y).toNat.toUInt8 = decI .i64 (outOf F) := by
    unfold firstIdx
    have hsz : (ByteArray.mk bs.toArray).size = x % 65536 := by show bs.toArray.size = _; simp [hlen]
    rw [hsz, List.range_eq_range', find_from]
    rw [find_congr (q := fun i => Nat.beq (Nat.land (Nat.shiftRight c.s (Nat.add (Nat.shiftRight x 16) (Nat.shiftLeft i 3))) 255) y) (x % 65536) 0 ?_, hF]
    · cases F with
      | none => rfl
      | some j =>
        have := find_lt _ _ _ hF
        show (j : Int) = decI .i64 j
        rw [dec_i64, if_pos (by omega)]
    · intro j _ hj
      have hj' : j < bs.length := by omega
      have hg : (ByteArray.mk bs.toArray)[j]! = bs[j] := by
        rw [getElem!_pos (ByteArray.mk bs.toArray) j (by show j < bs.toArray.size; simpa using hj')]
        show bs.toArray[j] = bs[j]
        simp
      have hbj : bs[j] = UInt8.ofNat (c.s / 2 ^ (x / 65536 + 8 * j) % 256) := (rel.str _ _ (hs.2.1 j hj')).1
      have hland : Nat.land (Nat.shiftRight c.s (Nat.add (Nat.shiftRight x 16) (Nat.shiftLeft j 3))) 255 = c.s / 2 ^ (x / 65536 + 8 * j) % 256 := by
        have a1 : Nat.shiftRight x 16 = x / 65536 := Nat.shiftRight_eq_div_pow x 16
        have a2 : Nat.shiftLeft j 3 = 8 * j := by
          have : Nat.shiftLeft j 3 = j <<< 3 := rfl
          rw [this, Nat.shiftLeft_eq]; omega
        have a3 : Nat.shiftRight c.s (Nat.add (x / 65536) (8 * j)) = c.s / 2 ^ (x / 65536 + 8 * j) := Nat.shiftRight_eq_div_pow _ _
        rw [a1, a2, a3]
        exact Nat.and_two_pow_sub_one_eq_mod _ 8
      simp only [hg, hbj, hland]
      have hy' : y < 256 := hy
      have hdy : (decI .u8 y).toNat.toUInt8 = UInt8.ofNat y := rfl
      rw [hdy]
      generalize hz : c.s / 2 ^ (x / 65536 + 8 * j) % 256 = z
      have hz' : z < 256 := by omega
      cases hq : Nat.beq z y with
      | true => rw [Nat.eq_of_beq_eq_true hq]; simp
      | false =>
        have hne : z ≠ y := by intro e; subst e; rw [Nat.beq_refl] at hq; cases hq
        simp only [beq_eq_false_iff_ne, ne_eq]
        intro e
        apply hne
        have := congrArg UInt8.toNat e
        simpa [Nat.mod_eq_of_lt hz', Nat.mod_eq_of_lt hy'] using this
  suffices hc : (callFunc 342 [.string ⟨bs.toArray⟩, .int .u8 (decI .u8 y)].toArray).run Tryz.prog w = .ok (.value (.int .i64 (decI .i64 (outOf F)))) w ∧ RSh N (.one (.int .i64)) (outOf F) (.int .i64 (decI .i64 (outOf F))) from callTo_val hc.1 (post_same rel off hc.2)
  refine ⟨?_, ?_⟩
  · refine (run_callFunc_extern (e := Extern.BytealgIndexByte.indexByte) Tryz.func342 (by kernel_rfl) (by kernel_rfl) (by kernel_rfl) (by kernel_rfl) _ _).trans ?_
    have := run_indexByte_string (P := Tryz.prog) ⟨bs.toArray⟩ (decI .u8 y) w
    rw [this, hfx]
    rfl
  · have hlt : outOf F < limK .i64 := by
      cases F with
      | none => exact Nat.le_of_ble_eq_true (by kernel_rfl)
      | some j =>
        have := find_lt _ _ _ hF
        show j < 18446744073709551616
        omega
    exact RInt hlt
end Go.Proofs.YtaekfgbfpfecdaaGreat.VM

/- The machine's first state, and what a law's function that answers true on the machine means for the program; no conditions but those that each theorem names. -/
namespace Go.Proofs.YtaekfgbfpfecdaaGreat.VM
open Go Go.RowKit
set_option linter.unusedVariables false
set_option maxRecDepth 1000000
noncomputable def N0 : Nm := ⟨fun _ => none, fun p => match Nat.ble (p + 8) (lg str0) && Nat.ble 64 p with | true => some (UInt8.ofNat (str0 / 2 ^ p % 256)) | false => none⟩
def lenB : List UInt8 → Nat
  | [] => 0
  | _ :: l => Nat.succ (lenB l)
theorem lenB_eq : ∀ l : List UInt8, lenB l = l.length
  | [] => rfl
  | _ :: l => by simp [lenB, lenB_eq l]
def bytesB (s : Nat) : List UInt8 → Nat → Bool
  | [], _ => true
  | b :: l, p => Nat.beq b.toNat (Nat.land (Nat.shiftRight s p) 255) && bytesB s l (Nat.add p 8)
theorem bytesB_ok {s : Nat} : ∀ {l : List UInt8} {p : Nat}, bytesB s l p = true → ∀ i (h : i < l.length), UInt8.ofNat (s / 2 ^ (p + 8 * i) % 256) = l[i]
  | [], p, _, i, h => absurd h (Nat.not_lt_zero _)
  | b :: l, p, hb, i, h => by
    simp only [bytesB, Bool.and_eq_true] at hb
    cases i with
    | zero =>
      have h1 := Nat.eq_of_beq_eq_true hb.1
      have a3 : Nat.shiftRight s p = s / 2 ^ p := Nat.shiftRight_eq_div_pow _ _
      have a4 : Nat.land (s / 2 ^ p) 255 = s / 2 ^ p % 256 := Nat.and_two_pow_sub_one_eq_mod _ 8
      rw [a3, a4] at h1
      show UInt8.ofNat (s / 2 ^ (p + 8 * 0) % 256) = b
      rw [Nat.mul_zero, Nat.add_zero, ← h1]
      simp
    | succ i =>
      have hi : i < l.length := by simpa using h
      have := bytesB_ok hb.2 i hi
      show UInt8.ofNat (s / 2 ^ (p + 8 * (i + 1)) % 256) = l[i]
      have e : Nat.add p 8 + 8 * i = p + 8 * (i + 1) := by show p + 8 + 8 * i = _; omega
      rw [← e]; exact this
def poolB (s L : Nat) : List (List UInt8 × Nat) → Bool
  | [] => true
  | (b, h) :: l => Nat.beq (lenB b) (Nat.land h 65535) && Nat.ble (Nat.add (Nat.shiftRight h 16) (Nat.mul 8 (lenB b))) L && Nat.ble (Nat.succ h) 18446744073709551616 && (Nat.beq (lenB b) 0 || Nat.ble 64 (Nat.shiftRight h 16)) && bytesB s b (Nat.shiftRight h 16) && poolB s L l
theorem poolB_ok {s L : Nat} : ∀ {l : List (List UInt8 × Nat)}, poolB s L l = true → ∀ b h, (b, h) ∈ l → b.length = h % 65536 ∧ h / 65536 + 8 * b.length ≤ L ∧ h < 2 ^ 64 ∧ (∀ i (hi : i < b.length), 64 ≤ h / 65536) ∧ ∀ i (hi : i < b.length), UInt8.ofNat (s / 2 ^ (h / 65536 + 8 * i) % 256) = b[i]
  | [], _, b, h, hm => by cases hm
  | (b', h') :: l, hb, b, h, hm => by
    simp only [poolB, Bool.and_eq_true, lenB_eq] at hb
    obtain ⟨⟨⟨⟨⟨h1, h2⟩, h3⟩, h6⟩, h4⟩, h5⟩ := hb
    rcases List.mem_cons.1 hm with he | hm
    · injection he with e1 e2
      subst e1; subst e2
      have a1 : Nat.shiftRight h 16 = h / 65536 := Nat.shiftRight_eq_div_pow h 16
      have a2 : Nat.land h 65535 = h % 65536 := Nat.and_two_pow_sub_one_eq_mod h 16
      rw [a1] at h2 h4 h6
      rw [a2] at h1
      refine ⟨Nat.eq_of_beq_eq_true h1, Nat.le_of_ble_eq_true h2, ?_, fun i hi => ?_, fun i hi => bytesB_ok h4 i hi⟩
      · have := Nat.le_of_ble_eq_true h3
        show h < 18446744073709551616
        omega
      · simp only [Bool.or_eq_true] at h6
        rcases h6 with h6 | h6
        · have := Nat.eq_of_beq_eq_true h6
          omega
        · exact Nat.le_of_ble_eq_true h6
    · exact poolB_ok h5 b h hm
theorem pool_all : poolB str0 (lg str0) strPool = true := by kernel_rfl
theorem lg0 : Nat.ble (lg str0) 1000000 = true := by kernel_rfl
theorem pools0 : Pools N0 := ⟨fun b h hm => by
  obtain ⟨h1, h2, h3, h6, h4⟩ := poolB_ok pool_all b h hm
  have h5 := Nat.le_of_ble_eq_true lg0
  refine ⟨⟨h1, fun i hi => ?_, by rw [← h1]; omega⟩, h3⟩
  have hle : Nat.ble (h / 65536 + 8 * i + 8) (lg str0) = true := Nat.ble_eq_true_of_le (by omega)
  have hle2 : Nat.ble 64 (h / 65536 + 8 * i) = true := Nat.ble_eq_true_of_le (by have := h6 i hi; omega)
  simp only [N0, hle, hle2, Bool.and_self]
  rw [h4 i hi]⟩
set_option exponentiation.threshold 5000 in
theorem rel0 (w : World) : Rel N0 ⟨0, 1, str0, 0⟩ w where
  cell a g o k mo sp h := by cases h
  inj a a' g o k mo sp k' mo' sp' h := by cases h
  spare a a' g o k mo sp o' k' mo' sp' h := by cases h
  dead a h := by cases h
  top a i h := by cases h
  mlt := Nat.two_pow_pos _
  tl := ⟨Nat.le_refl _, by decide⟩
  str p b h := by
    simp only [N0] at h
    split at h
    · next e =>
      rw [Bool.and_eq_true] at e
      cases h; exact ⟨rfl, by rw [← lg_eq]; exact Nat.le_of_ble_eq_true e.1⟩
    · cases h
  spos := by
    have h1 : Nat.ble (Nat.succ str0) (Nat.pow 2 (lg str0)) = true := by kernel_rfl
    have h2 : Nat.ble 64 (lg str0) = true := by kernel_rfl
    rw [lg_eq] at h1 h2
    refine ⟨⟨Nat.le_of_ble_eq_true h1, Nat.le_of_ble_eq_true h2⟩, fun p b h => ?_⟩
    simp only [N0] at h
    split at h
    · next e =>
      rw [Bool.and_eq_true] at e
      exact Nat.le_of_ble_eq_true e.2
    · cases h
/-- The streams and the blocks that were there are as they were. -/
structure Kept (w w' : World) : Prop where
  os : w'.os = w.os
  output : w'.output = w.output
  block : ∀ k, k < w.heap.size → w'.heap[k]? = w.heap[k]?
theorem Kept.frame {W w' : World} (h : Kept W w') (may : MemPlace → Prop) : W.keptBut w' may := by
  refine ⟨h.os, h.output, fun i hi => ?_⟩
  rw [h.block i hi]
  split <;> simp_all
theorem enter_call {P : Program} {f : FuncId} {fn : Func} (hf : P.funcs[f]? = some fn) (hname : (fn.name == "runtime.NumGoroutine") = false) (hb : fn.body = some (bodyOf fn)) (args : Array Value) (w : World) :
    (callFunc f args).run P w = .ok (.enter f args) w := by
  have h1 : fn.name ≠ "runtime.NumGoroutine" := by simpa using hname
  simp [callFunc, hf, h1, hb]
/-- A function whose answer is one truth value, true on the machine. -/
theorem says_true {P : Program} {g : FuncId} {fn : Func} {F : FunE} (hF : FunOK P g F) (hf : P.funcs[g]? = some fn) (hname : (fn.name == "runtime.NumGoroutine") = false) (hb : fn.body = some (bodyOf fn)) (hrs : F.rs = [.one .bool])
    {l : List Nat} {vs : List Value} (hl : l.length = F.ps.length) (hv : RShs N0 F.ps l vs) (ht : F.f l ⟨0, 1, str0, 0⟩ (fun xs _ => match xs with | [r] => Nat.beq r 1 | _ => false) = true) (w : World) :
    Calls P g vs.toArray w fun e w' => e = .returned (.bool true) ∧ Kept w w' := by
  rcases hF l ⟨0, 1, str0, 0⟩ hl with h | ⟨xs, c', h1, h2, h3⟩
  · rw [h] at ht; cases ht
  · rw [h1] at ht
    have hx : xs = [1] := by
      match xs, ht with
      | [r], ht => rw [Nat.eq_of_beq_eq_true ht]
    have h4 := h3 (fun k => k < w.heap.size) N0 w vs (rel0 w) pools0 (fun g a o k mo sp _ => by intro e; cases e) (fun k hk => hk) hv
    unfold CallTo at h4
    rw [enter_call hf hname hb] at h4
    refine Calls.mono h4 fun e w' he => ?_
    cases e with
    | returned v =>
      obtain ⟨N', _, _, _, hs, _, hr⟩ := (he : Post _ N0 w F.rs xs c' v w')
      refine ⟨?_, ⟨hs.1.1, hs.1.2, hs.2⟩⟩
      rcases hr with ⟨s, x, e1, e2, hr⟩ | ⟨hr, _⟩
      · rw [hrs] at e1
        rw [hx] at e2
        cases e1; cases e2
        rw [hr.2.1]; rfl
      · rw [hrs] at hr; exact absurd rfl hr
    | panicked c => exact he.elim
    | outgrown => exact he.elim
theorem says_true3 {P : Program} {g : FuncId} {fn : Func} {F : FT 3 1} {a b c : Sh} (hF : FunOK P g ⟨[a, b, c], [.one .bool], wrapF 3 1 F⟩) (hf : P.funcs[g]? = some fn) (hname : (fn.name == "runtime.NumGoroutine") = false) (hb : fn.body = some (bodyOf fn))
    {x y z : Nat} {u v q : Value} (h1 : RSh N0 a x u) (h2 : RSh N0 b y v) (h3 : RSh N0 c z q) (ht : F x y z 0 1 str0 0 (fun r m t s d => Nat.beq r 1) = true) (w : World) :
    Calls P g #[u, v, q] w fun e w' => e = .returned (.bool true) ∧ Kept w w' :=
  says_true hF hf hname hb rfl (l := [x, y, z]) (vs := [u, v, q]) rfl ⟨h1, h2, h3, trivial⟩ ht w
end Go.Proofs.YtaekfgbfpfecdaaGreat.VM

