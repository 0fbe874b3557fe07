/- Code and functions are sound; the machine once more, quickly unfolded; no conditions but those that each theorem names. -/
import Derived.LoopN
import Derived.Scope
import Derived.Laws.Sem
import Derived.Test.YtaekfgbfpfecdaaGreatN4

/- An operation that does not store leaves the other local variables as they are; no conditions but those that each theorem names. -/
namespace Go.Proofs.YtaekfgbfpfecdaaGreat.VM
open Go
set_option linter.unusedVariables false
set_option linter.unusedSimpArgs false
variable {P : Program} [Df]
set_option linter.unusedSectionVars false


def LoDef (dst : Option Nat) (lo : Lo) (F : (Env → Lo → Core → Bool) → Bool) : Prop :=
  (∀ k, F k = false) ∨ ∃ env' lo' c', (∀ k, F k = k env' lo' c') ∧ ∀ t, dst ≠ some t → getA lo' t = getA lo t
theorem LoDef.no {dst : Option Nat} {lo : Lo} : LoDef dst lo (fun _ => false) := .inl fun _ => rfl
theorem LoDef.chk {dst : Option Nat} {lo : Lo} {F : (Env → Lo → Core → Bool) → Bool} {chk : Option Bool} (h : LoDef dst lo F) : LoDef dst lo (fun k => chkK chk (F k)) := by
  rcases chk_cases chk with hc | hc
  · rcases h with h | ⟨e, l, c, h1, h2⟩
    · exact .inl fun k => (chkK_true hc).trans (h k)
    · exact .inr ⟨e, l, c, fun k => (chkK_true hc).trans (h1 k), h2⟩
  · exact .inl fun k => chkK_false hc
theorem LoDef.ite {dst : Option Nat} {lo : Lo} {F F' : (Env → Lo → Core → Bool) → Bool} {b : Bool} (h : LoDef dst lo F) (h' : LoDef dst lo F') : LoDef dst lo (fun k => cond b (F k) (F' k)) := by
  cases b
  · exact h'
  · exact h
theorem LoDef.set {nt : Nat} {forced : List Nat} {dst : Option Nat} {gd : Gd} {e : Ent} {env : Env} {lo : Lo} {c : Core} : LoDef dst lo (fun k => setK nt forced dst gd e env (fun env => k env lo c)) := by
  rcases setK_def nt forced dst gd e env with hd | ⟨env', hd, hset⟩
  · exact .inl fun k => hd _
  · exact .inr ⟨env', lo, c, fun k => hd _, fun t ht => rfl⟩
theorem LoDef.loc {nt d : Nat} {e : Ent} {b : LoE} {env : Env} {lo : Lo} {c : Core} : LoDef (some d) lo (fun k => newLoc nt d e b env lo (fun env lo => k env lo c)) := by
  unfold newLoc
  refine LoDef.ite (.inr ⟨_, _, _, fun k => rfl, fun t ht => ?_⟩) .no
  rw [getA_cons, if_neg]
  intro h
  exact ht (by rw [h])
theorem LoDef.row {dst : Option Nat} {lo : Lo} {n y : Nat} {zero : Bool} {c : Core} {F : Core → (Env → Lo → Core → Bool) → Bool} (h : ∀ c', LoDef dst lo (F c')) : LoDef dst lo (fun k => nRow n y zero c (fun c' => F c' k)) := by
  unfold nRow
  simp only [force_eq]
  refine LoDef.ite ?_ .no
  cases zero
  · exact h _
  · exact h _

theorem call_lo {I : FI} (hfns : FnsOK P I.fns) {dst : Option Nat} {gd : Gd} {f : Operand} {args : List Operand} {env : Env} {lo : Lo} {c : Core} : LoDef dst lo (fun k => denCall I dst gd f args env lo c k) := by
  unfold denCall
  cases ht : tgtOf I dst (genv gd env) f with
  | none => exact .no
  | some t =>
  simp only
  cases hrs : tgtRs I t with
  | none => exact .no
  | some rs =>
  simp only
  cases gd with
  | none =>
    simp only
    rcases callT_def (P := P) hfns t args env c rs hrs with h | ⟨xs, c', h1, h2, h3⟩
    · refine .inl fun k => ?_
      cases manyC t with
      | false => exact h _
      | true => simp only [join_eq]; exact h _
    · cases manyC t with
      | false => simp only [h1]; exact LoDef.set
      | true => simp only [join_eq, h1, ap_of (lenS rs) _ xs c' (by rw [lenS_eq]; exact h2)]; exact LoDef.set
  | some swg =>
    obtain ⟨s, wt, gb⟩ := swg
    simp only [join_eq]
    cases gb with
    | false =>
      simp only [cond_false, ap_of (lenS rs) _ (zerosS rs) c (by rw [lenS_eq]; exact zerosS_len rs)]
      exact LoDef.set
    | true =>
      simp only [cond_true]
      rcases callT_def (P := P) hfns t args (unlock s wt env) c rs hrs with h | ⟨xs, c', h1, h2, h3⟩
      · exact .inl fun k => h _
      · simp only [h1, ap_of (lenS rs) _ xs c' (by rw [lenS_eq]; exact h2)]
        exact LoDef.set
theorem clear_lo {I : FI} {dst : Option Nat} {ts : List Nat} {s : Operand} {env : Env} {lo : Lo} {c : Core} : LoDef dst lo (fun k => denClear I dst ts s env lo c k) := by
  unfold denClear
  split
  · next t =>
    generalize ty t = r
    split
    · next el _ =>
      generalize (zeroOk el && Nat.blt 0 (lenK (lay el)) && Nat.beq (ty el).size (lenK (lay el))) = b
      generalize lay el = L
      refine LoDef.ite ?_ .no
      split
      · refine LoDef.ite ?_ .no
        simp only [join_eq, ap_of 0 _ [] _ rfl, wrK_eq]
        exact LoDef.ite LoDef.set (LoDef.ite LoDef.set .no)
      · exact .no
    · exact .no
  · exact .no
theorem append_lo {I : FI} {dst : Option Nat} {ts : List Nat} {s x : Operand} {env : Env} {lo : Lo} {c : Core} : LoDef dst lo (fun k => denAppend I dst ts s x env lo c k) := by
  unfold denAppend
  split
  · next t t' =>
    generalize ty t = r
    refine LoDef.ite ?_ .no
    split
    · next el _ =>
      generalize (zeroOk el && Nat.blt 0 (lenK (lay el)) && Nat.beq (ty el).size (lenK (lay el)) && Nat.blt (bytesT el) 1048576) = b
      refine LoDef.ite ?_ .no
      split
      · split
        · next fl xs chk n y b _ _ =>
          generalize lay el = L
          refine LoDef.chk ?_
          simp only [force_eq, join_eq]
          rcases appK_def (lenK L) xs n y c with hd | ⟨r, c', hto, hd⟩
          · exact .inl fun k => hd _
          · simp only [hd, ap_of 1 _ [r] _ rfl]
            exact LoDef.set
        · exact .no
      · exact .no
    · exact .no
  · exact .no
theorem alloc_lo {I : FI} {dst : Option Nat} {t : Nat} {env : Env} {lo : Lo} {c : Core} : LoDef dst lo (fun k => denAlloc I dst t env lo c k) := by
  unfold denAlloc
  cases dst with
  | none => exact .no
  | some d =>
    simp only
    generalize lay t = L
    generalize zeroOk t = z
    refine LoDef.ite ?_ .no
    cases memN d I.locs with
    | true => exact LoDef.loc
    | false =>
      simp only [force_eq]
      exact LoDef.row fun c' => LoDef.set
theorem box_lo {I : FI} {dst : Option Nat} {t : Nat} {ev : Ent} {env : Env} {lo : Lo} {c : Core} : LoDef dst lo (fun k => denBox I dst t ev env lo c k) := by
  unfold denBox
  cases dst with
  | none => exact .no
  | some d =>
    simp only
    generalize lay t = L
    generalize ty t = r
    refine LoDef.ite ?_ .no
    split
    · exact .no
    · cases memN d I.locs with
      | true => exact LoDef.loc
      | false =>
        simp only [force_eq]
        exact LoDef.row fun c' => LoDef.set
theorem buildS_lo {I : FI} {dst : Option Nat} {t len : Nat} {ps : List (Nat × Operand)} {env : Env} {lo : Lo} {c : Core} : LoDef dst lo (fun k => denBuildS I dst t len ps env lo c k) := by
  unfold denBuildS
  generalize ty t = r
  obtain ⟨td, n⟩ := r
  cases dst with
  | none => cases td <;> exact .inl fun k => rfl
  | some d =>
  cases td <;> first | exact .inl fun k => rfl | skip
  next el =>
  simp only
  cases q : (zeroOk el && Nat.blt 0 (lenK (lay el)) && Nat.beq (ty el).size (lenK (lay el)) && Nat.blt 0 len && Nat.blt (Nat.mul len (lenK (lay el))) 131072) with
  | false => exact .inl fun k => rfl
  | true =>
  simp only [cond_true]
  cases hy : partsN (placeArr len el) (repK len (lay el)) env ps 0 0 with
  | none => exact .inl fun k => rfl
  | some y =>
  simp only
  cases memN d I.locs with
  | true =>
    simp only [force_eq]
    exact LoDef.loc
  | false =>
    simp only [force_eq, nRow]
    cases hb : Nat.blt (Nat.add c.t (Nat.mul len (lenK (lay el)))) 4194304 with
    | false => exact .inl fun k => rfl
    | true =>
      simp only [cond_true]
      exact LoDef.set
theorem range_lo {I : FI} {dst : Option Nat} {t : Nat} {e : Ent} {env : Env} {lo : Lo} {c : Core} : LoDef dst lo (fun k => denRange I dst t e env lo c k) := by
  unfold denRange
  generalize ty t = r
  split
  · exact LoDef.loc
  · exact .no
theorem cat_lo {I : FI} {dst : Option Nat} {x y : Nat} {env : Env} {lo : Lo} {c : Core} : LoDef dst lo (fun k => denCat I dst x y env lo c k) := by
  unfold denCat
  simp only [force_eq]
  exact LoDef.ite LoDef.set .no

theorem empty_lo {I : FI} {dst : Option Nat} {t : Nat} {ps : List (Nat × Operand)} {env : Env} {lo : Lo} {c : Core} : LoDef dst lo (fun k => denEmpty I dst t ps env lo c k) := by
  unfold denEmpty
  generalize ty t = r
  split
  · next el _ =>
    generalize (zeroOk el && Nat.blt 0 (lenK (lay el)) && Nat.beq (ty el).size (lenK (lay el))) = b
    exact LoDef.ite LoDef.set .no
  · exact .no
theorem str_lo {I : FI} {dst : Option Nat} {t t' : Nat} {l : List K} {x : Nat} {env : Env} {lo : Lo} {c : Core} : LoDef dst lo (fun k => denStr I dst t t' l x env lo c k) := by
  unfold denStr
  generalize ty t = r
  generalize ty t' = r'
  split
  · next el _ =>
    generalize ty el = r3
    split
    · generalize (beqKs l (lay el) && beqKs l [.int .u8]) = b
      refine LoDef.ite ?_ .no
      simp only [force_eq]
      exact LoDef.ite LoDef.set .no
    · exact .no
  · exact .no
theorem denOp_lo {o : Oper} {I : FI} (hst : opSt [o] = false) (hfns : FnsOK P I.fns) {env : Env} {lo : Lo} {c : Core} {gd : Gd} : LoDef o.dst lo (fun k => denOp I o gd env lo c k) := by
  have light : LoDef o.dst lo (fun k => match sem o (genv gd env) lo c with
      | some (chk, e) => chkK (gchk gd chk) (setK I.nt I.forced o.dst gd e env (fun env => k env lo c))
      | none => false) := by
    cases hs : sem o (genv gd env) lo c with
    | none => exact .no
    | some ce => exact LoDef.set.chk
  unfold denOp
  split
  · split
    · exact call_lo (P := P) hfns
    · split
      · exact append_lo
      · exact clear_lo
      · exact .no
      · exact .no
      · exact light
    · exact .no
  · next hop => simp only [opSt, hop, Bool.true_eq_false] at hst
  · split
    · exact alloc_lo
    · exact .no
  · split
    · exact box_lo
    · exact .no
  · split
    · exact LoDef.ite empty_lo buildS_lo
    · exact .no
  · split
    · exact str_lo
    · exact light
  · split
    · exact range_lo
    · exact .no
  · next hop => simp only [opSt, hop, Bool.true_eq_false] at hst
  · split
    · exact cat_lo
    · exact light
  · exact light

theorem opSt_mem : ∀ {l : List Oper}, opSt l = false → ∀ o ∈ l, opSt [o] = false
  | [], _, o, h => by cases h
  | a :: l, hs, o, h => by
    have h1 : opSt [a] = false ∧ opSt l = false := by
      simp only [opSt] at hs ⊢
      split at hs
      · cases hs
      · cases hs
      · next h1 h2 =>
        exact ⟨rfl, hs⟩
    rcases List.mem_cons.1 h with rfl | h
    · exact h1.1
    · exact opSt_mem h1.2 o h
theorem dsts_mem : ∀ {l : List Oper} {o : Oper} {d : Nat}, o ∈ l → o.dst = some d → d ∈ dstsOf l
  | [], o, d, h, _ => by cases h
  | a :: l, o, d, h, hd => by
    simp only [dstsOf]
    rcases List.mem_cons.1 h with rfl | h
    · rw [hd]
      exact List.mem_cons_self
    · have := dsts_mem h hd
      split
      · exact List.mem_cons_of_mem _ this
      · exact this
/-- What operations leave as it is. -/
structure Leaves (ds : List Nat) (st : Bool) (env : Env) (lo : Lo) (env' : Env) (lo' : Lo) : Prop where
  env : ∀ t, t ∉ ds → getA env' t = getA env t
  lo : st = false → ∀ t, t ∉ ds → getA lo' t = getA lo t
theorem op_leaves {I : FI} (hfns : FnsOK P I.fns) {all : List Oper} {o : Oper} (ho : o ∈ all) {gd : Gd} {env : Env} {lo : Lo} {c : Core} : (∀ k, denOp I o gd env lo c k = false) ∨ ∃ env' lo' c', (∀ k, denOp I o gd env lo c k = k env' lo' c') ∧ Leaves (dstsOf all) (opSt all) env lo env' lo' := by
  rcases denOp_env (P := P) (o := o) (I := I) hfns (env := env) (lo := lo) (c := c) (gd := gd) with h | ⟨env1, lo1, c1, h1, h2⟩
  · exact .inl h
  · refine .inr ⟨env1, lo1, c1, h1, fun t ht => h2 t fun e => ht (dsts_mem ho e), fun hst t ht => ?_⟩
    rcases denOp_lo (P := P) (o := o) (I := I) (opSt_mem hst o ho) hfns (env := env) (lo := lo) (c := c) (gd := gd) with h | ⟨env2, lo2, c2, h3, h4⟩
    · have h5 := h1 fun _ _ _ => true
      have h6 := h fun _ _ _ => true
      simp only at h5 h6
      rw [h6] at h5
      cases h5
    · obtain ⟨rfl, rfl, rfl⟩ := one_end fun k => (h1 k).symm.trans (h3 k)
      exact h4 t fun e => ht (dsts_mem ho e)
theorem Leaves.refl {ds : List Nat} {st : Bool} (env : Env) (lo : Lo) : Leaves ds st env lo env lo := ⟨fun _ _ => rfl, fun _ _ _ => rfl⟩
theorem Leaves.trans {ds : List Nat} {st : Bool} {env env' env'' : Env} {lo lo' lo'' : Lo} (h : Leaves ds st env lo env' lo') (h' : Leaves ds st env' lo' env'' lo'') : Leaves ds st env lo env'' lo'' :=
  ⟨fun t ht => (h'.env t ht).trans (h.env t ht), fun hs t ht => (h'.lo hs t ht).trans (h.lo hs t ht)⟩
theorem ops_leave {I : FI} (hfns : FnsOK P I.fns) {all : List Oper} : ∀ {l : List Oper} {env : Env} {lo : Lo} {c : Core}, (∀ o ∈ l, o ∈ all) → (∀ k, denOps I all l env lo c k = false) ∨ ∃ env' lo' c', (∀ k, denOps I all l env lo c k = k env' lo' c') ∧ Leaves (dstsOf all) (opSt all) env lo env' lo'
  | [], env, lo, c, _ => .inr ⟨env, lo, c, fun k => rfl, Leaves.refl env lo⟩
  | o :: l, env, lo, c, hl => by
    simp only [denOps]
    cases hg : guardOf all env o with
    | none => exact .inl fun k => rfl
    | some gd =>
      simp only
      rcases op_leaves (P := P) hfns (hl o List.mem_cons_self) (gd := gd) (env := env) (lo := lo) (c := c) with h | ⟨env1, lo1, c1, h1, h2⟩
      · exact .inl fun k => h _
      · simp only [h1]
        rcases ops_leave hfns (l := l) (env := env1) (lo := lo1) (c := c1) (fun o ho => hl o (List.mem_cons_of_mem _ ho)) with h | ⟨env2, lo2, c2, h3, h4⟩
        · exact .inl h
        · exact .inr ⟨env2, lo2, c2, h3, h2.trans h4⟩
theorem drw_leave {I : FI} (hfns : FnsOK P I.fns) {ops : Array Oper} {ms : List (Nat × Nat)} : ∀ {rest done : List (Nat × Nat)} {env : Env} {lo : Lo} {c : Core}, (∀ k, denDrw I ops.toList ms rest done env lo c k = false) ∨ ∃ env' lo' c', (∀ k, denDrw I ops.toList ms rest done env lo c k = k env' lo' c') ∧ Leaves (dstsOf ops.toList) (opSt ops.toList) env lo env' lo'
  | [], done, env, lo, c => .inr ⟨env, lo, c, fun k => rfl, Leaves.refl env lo⟩
  | (i, q) :: rest, done, env, lo, c => by
    simp only [denDrw]
    cases ho : nthO i ops.toList with
    | none => exact .inl fun k => rfl
    | some o =>
    simp only
    have hmem : o ∈ ops.toList := by rw [nthO_eq] at ho; exact List.mem_of_getElem? ho
    cases hg : guardOf ops.toList env o with
    | none => exact .inl fun k => rfl
    | some gd =>
    simp only
    rcases op_leaves (P := P) hfns hmem (gd := gd) (env := env) (lo := lo) (c := c) with h | ⟨env1, lo1, c1, h1, h2⟩
    · refine .inl fun k => ?_
      match q with
      | 0 => simp only [h]; cases lightO o gd env <;> rfl
      | q + 1 => exact h _
    · rcases drw_leave hfns (ops := ops) (ms := ms) (rest := rest) (done := (i, q) :: done) (env := env1) (lo := lo1) (c := c1) with h | ⟨env2, lo2, c2, h3, h4⟩
      · refine .inl fun k => ?_
        match q with
        | 0 =>
          simp only [h1]
          cases lightO o gd env
          · rfl
          · cases (cond (catO o gd env) (noS ops.toList env1 done) true)
            · rfl
            · exact h k
        | q + 1 =>
          simp only [h1]
          rcases againAll_tri (ops := ops) (lookM i ms) env1 lo1 c1 done with ha | ⟨ha, hb⟩
          · exact ha _
          · exact (ha _).trans (h k)
      · match q, h3 with
        | 0, h3 =>
          simp only [h1]
          cases lightO o gd env with
          | false => exact .inl fun k => rfl
          | true =>
            cases (cond (catO o gd env) (noS ops.toList env1 done) true) with
            | false => exact .inl fun k => rfl
            | true => exact .inr ⟨env2, lo2, c2, fun k => h3 k, h2.trans h4⟩
        | q + 1, h3 =>
          simp only [h1]
          rcases againAll_tri (ops := ops) (lookM i ms) env1 lo1 c1 done with ha | ⟨ha, hb⟩
          · exact .inl fun k => ha _
          · exact .inr ⟨env2, lo2, c2, fun k => (ha _).trans (h3 k), h2.trans h4⟩
end Go.Proofs.YtaekfgbfpfecdaaGreat.VM

/- Where branches meet: what is handed on, and what is kept; no conditions but those that each theorem names. -/
namespace Go.Proofs.YtaekfgbfpfecdaaGreat.VM
open Go
set_option linter.unusedVariables false
set_option linter.unusedSimpArgs false
variable {P : Program} [Df]
set_option linter.unusedSectionVars false

/-- No slot hangs on a guard. -/
def NoGd (env : Env) : Prop := ∀ i s w b e, getA env i ≠ some (.g s w b e)
theorem strip_get : ∀ (env : Env) (i : Nat), getA (stripG env) i = (match getA env i with | some (.g _ _ _ _) => none | x => x)
  | [], i => rfl
  | (a, x) :: l, i => by
    have ih := strip_get l i
    cases x with
    | none => simp only [stripG, getA_cons]; split <;> first | rfl | exact ih
    | some e => cases e <;> (simp only [stripG, getA_cons]; split <;> first | rfl | exact ih)
theorem strip_noGd (env : Env) : NoGd (stripG env) := by
  intro i s w b e h
  rw [strip_get] at h
  split at h
  · cases h
  · next hn => exact hn _ _ _ _ h
theorem OK.weak {nt : Nat} {G : Nat → Prop} {N : Nm} {lam : Nat → Nat} {env env' : Env} {lo lo' : Lo} {c : Core} {a : Act} {w : World} (h : OK nt G N lam env lo c a w) (hn : NoGd env') (he : ∀ i e, getA env' i = some e → ∃ e0, getA env i = some e0 ∧ ∀ v, REnt N lam e0 v → REnt N lam e v)
    (hl : ∀ i x, getA lo' i = some x → getA lo i = some x) : OK nt G N lam env' lo' c a w := by
  refine ⟨⟨fun i e hi => ?_, fun i s wt gb e hi => absurd hi (hn _ _ _ _ _), fun i l x hi => h.re.blk i l x (hl _ _ hi), fun i q p hi => h.re.itr i q p (hl _ _ hi), fun i e hi => h.re.off i e (hl _ _ hi), fun i j e e' hi hj => h.re.inj i j e e' (hl _ _ hi) (hl _ _ hj)⟩,
    h.rel, h.pools, h.off, h.ing, fun i e hi => h.prot i e (hl _ _ hi), h.nt, h.df⟩
  obtain ⟨e0, h1, h2⟩ := he i e hi
  obtain ⟨v, h3, h4⟩ := h.re.slot i e0 h1
  exact ⟨v, h3, h2 v h4⟩
theorem OK.strip {nt : Nat} {G : Nat → Prop} {N : Nm} {lam : Nat → Nat} {env : Env} {lo : Lo} {c : Core} {a : Act} {w : World} (h : OK nt G N lam env lo c a w) : OK nt G N lam (stripG env) lo c a w :=
  h.weak (strip_noGd env) (fun i e hi => by
    rw [strip_get] at hi
    split at hi
    · cases hi
    · exact ⟨e, hi, fun v hv => hv⟩) (fun i x hi => hi)
theorem After.strip {nt : Nat} {G : Nat → Prop} {N : Nm} {w : World} {env : Env} {lo : Lo} {c : Core} {a' : Act} {w' : World} (h : After nt G N w env lo c a' w') : After nt G N w (stripG env) lo c a' w' := by
  obtain ⟨N', lam', e, o, s, l⟩ := h
  exact ⟨N', lam', e, o.strip, s, l⟩

theorem shade_get {α : Type} : ∀ (as : List Nat) (l : List (Nat × Option α)) (i : Nat), getA (shade as l) i = if i ∈ as then none else getA l i
  | [], l, i => by simp [shade]
  | a :: as, l, i => by
    simp only [shade, getA_cons, shade_get as l i, List.mem_cons]
    by_cases h : a = i
    · subst h; simp
    · have h' : i ≠ a := fun e => h e.symm
      simp [h, h']
theorem lenP_eq : ∀ ps : List (Nat × PSh), lenP ps = ps.length
  | [] => rfl
  | _ :: l => by simp [lenP, lenP_eq l]
theorem getPs_sh {env : Env} {lo : Lo} {i : Nat} {s : Sh} {ps : List (Nat × PSh)} {l : List (Bool × Nat)} (h : getPs env lo ((i, .sh s) :: ps) = some l) :
    ∃ e fl n r, evO env (.tmp i) = some e ∧ toN s e = some (fl, n) ∧ getPs env lo ps = some r ∧ l = (fl, n) :: r := by
  simp only [getPs] at h
  split at h
  · next e he =>
    split at h
    · next n hn =>
      split at h
      · next r hr =>
        cases h
        exact ⟨e, n.1, n.2, r, he, hn, hr, rfl⟩
      · cases h
    · cases h
  · cases h
theorem evO_tmp {env : Env} {i : Nat} {e : Ent} (h : evO env (.tmp i) = some e) : getA env i = some e := (evO_raw h).1
theorem getPs_loc {env : Env} {lo : Lo} {i : Nat} {L : List K} {ps : List (Nat × PSh)} {l : List (Bool × Nat)} (h : getPs env lo ((i, .loc L) :: ps) = some l) :
    ∃ y r, getA env i = some (.lp i L 0) ∧ getA lo i = some (.blk L y) ∧ getPs env lo ps = some r ∧ l = (true, y) :: r := by
  simp only [getPs] at h
  split at h
  · next j l' o L' y he hlo =>
    have h0 := cond_some h
    clear h
    obtain ⟨h1, h⟩ := h0
    simp only [Bool.and_eq_true] at h1
    obtain ⟨⟨⟨h1, h2⟩, h3⟩, h4⟩ := h1
    have h1 := Nat.eq_of_beq_eq_true h1
    have h2 := Nat.eq_of_beq_eq_true h2
    have h3 := beqKs_eq h3
    have h4 := beqKs_eq h4
    subst h1 h2 h3 h4
    split at h
    · next r hr =>
      cases h
      exact ⟨y, r, evO_tmp he, locOf_get hlo, hr, rfl⟩
    · cases h
  · cases h
theorem getPs_itr {env : Env} {lo : Lo} {i : Nat} {ps : List (Nat × PSh)} {l : List (Bool × Nat)} (h : getPs env lo ((i, .itr) :: ps) = some l) :
    ∃ q p r, getA env i = some (.it i) ∧ getA lo i = some (.itr q p) ∧ getPs env lo ps = some r ∧ l = (false, Nat.add (Nat.shiftLeft q 16) p) :: r := by
  simp only [getPs] at h
  split at h
  · next j q p he hlo =>
    have h0 := cond_some h
    clear h
    obtain ⟨h1, h⟩ := h0
    have h1 := Nat.eq_of_beq_eq_true h1
    subst h1
    split at h
    · next r hr =>
      cases h
      exact ⟨q, p, r, evO_tmp he, hlo, hr, rfl⟩
    · cases h
  · cases h
theorem pack16 {q p : Nat} (h : p < 65536) : Nat.shiftRight (Nat.add (Nat.shiftLeft q 16) p) 16 = q ∧ Nat.land (Nat.add (Nat.shiftLeft q 16) p) 65535 = p := by
  rw [cut16]
  have e1 : Nat.shiftRight (q * 65536 + p) 16 = (q * 65536 + p) / 65536 := Nat.shiftRight_eq_div_pow _ 16
  have e2 : Nat.land (q * 65536 + p) 65535 = (q * 65536 + p) % 65536 := Nat.and_two_pow_sub_one_eq_mod _ 16
  rw [e1, e2]
  omega
theorem getPs_len {env : Env} {lo : Lo} : ∀ {ps : List (Nat × PSh)} {l : List (Bool × Nat)}, getPs env lo ps = some l → l.length = lenP ps
  | [], l, h => by cases h; rfl
  | (i, .sh s) :: ps, l, h => by
    obtain ⟨e, fl, n, r, _, _, h1, rfl⟩ := getPs_sh h
    simp [lenP, getPs_len h1]
  | (i, .loc L) :: ps, l, h => by
    obtain ⟨y, r, _, _, h1, rfl⟩ := getPs_loc h
    simp [lenP, getPs_len h1]
  | (i, .itr) :: ps, l, h => by
    obtain ⟨q, p, r, _, _, h1, rfl⟩ := getPs_itr h
    simp [lenP, getPs_len h1]
theorem setEnv_get {env : Env} {lo : Lo} {env0 : Env} {i : Nat} {e : Ent} : ∀ {ps : List (Nat × PSh)} {l : List (Bool × Nat)}, getPs env lo ps = some l → getA (setEnv ps (l.map (·.2)) env0) i = some e →
    (∃ s e0 fl n, getA env i = some e0 ∧ toN s e0 = some (fl, n) ∧ e = entSh s n) ∨ ((∃ L, e = .lp i L 0) ∧ getA env i = some e ∨ e = .it i ∧ getA env i = some e) ∨ getA env0 i = some e
  | [], l, h, hi => by cases h; exact .inr (.inr hi)
  | (j, .sh s) :: ps, l, h, hi => by
    obtain ⟨e0, fl, n, r, h1, h2, h3, rfl⟩ := getPs_sh h
    simp only [List.map_cons, setEnv, getA_cons] at hi
    split at hi
    · next hj =>
      subst hj
      cases hi
      exact .inl ⟨s, e0, fl, n, evO_tmp h1, h2, rfl⟩
    · exact setEnv_get h3 hi
  | (j, .loc L) :: ps, l, h, hi => by
    obtain ⟨y, r, h1, h2, h3, rfl⟩ := getPs_loc h
    simp only [List.map_cons, setEnv, getA_cons] at hi
    split at hi
    · next hj =>
      subst hj
      cases hi
      exact .inr (.inl (.inl ⟨⟨L, rfl⟩, h1⟩))
    · exact setEnv_get h3 hi
  | (j, .itr) :: ps, l, h, hi => by
    obtain ⟨q, p, r, h1, h2, h3, rfl⟩ := getPs_itr h
    simp only [List.map_cons, setEnv, getA_cons] at hi
    split at hi
    · next hj =>
      subst hj
      cases hi
      exact .inr (.inl (.inr ⟨rfl, h1⟩))
    · exact setEnv_get h3 hi
theorem setLo_get {env : Env} {lo : Lo} {lo0 : Lo} {i : Nat} {x : LoE} : ∀ {ps : List (Nat × PSh)} {l : List (Bool × Nat)}, getPs env lo ps = some l → getA (setLo ps (l.map (·.2)) lo0) i = some x → getA lo i = some x ∨ (∃ q p, getA lo i = some (.itr q p) ∧ x = .itr (Nat.shiftRight (Nat.add (Nat.shiftLeft q 16) p) 16) (Nat.land (Nat.add (Nat.shiftLeft q 16) p) 65535)) ∨ getA lo0 i = some x
  | [], l, h, hi => by cases h; exact .inr (.inr hi)
  | (j, .sh s) :: ps, l, h, hi => by
    obtain ⟨e0, fl, n, r, h1, h2, h3, rfl⟩ := getPs_sh h
    simp only [List.map_cons, setLo] at hi
    exact setLo_get h3 hi
  | (j, .loc L) :: ps, l, h, hi => by
    obtain ⟨y, r, h1, h2, h3, rfl⟩ := getPs_loc h
    simp only [List.map_cons, setLo, getA_cons] at hi
    split at hi
    · next hj =>
      subst hj
      cases hi
      exact .inl h2
    · exact setLo_get h3 hi
  | (j, .itr) :: ps, l, h, hi => by
    obtain ⟨q, p, r, h1, h2, h3, rfl⟩ := getPs_itr h
    simp only [List.map_cons, setLo, getA_cons] at hi
    split at hi
    · next hj =>
      subst hj
      cases hi
      exact .inr (.inl ⟨q, p, h2, rfl⟩)
    · exact setLo_get h3 hi
theorem setEnv_keep {env : Env} {lo : Lo} {env0 : Env} {i : Nat} {e : Ent} {as : List Nat} {st : Bool} (hi : i ∉ as) (h0 : getA env0 i = some e) (h1 : getA env i = some e) : ∀ {ps : List (Nat × PSh)} {l : List (Bool × Nat)}, psIn ps as st = true → getPs env lo ps = some l → getA (setEnv ps (l.map (·.2)) env0) i = some e
  | [], l, _, h => by cases h; exact h0
  | (j, .sh s) :: ps, l, hp, h => by
    obtain ⟨e0, fl, n, r, _, h2, h3, rfl⟩ := getPs_sh h
    simp only [psIn] at hp
    obtain ⟨hp1, hp2⟩ := condT hp
    have hj : j ≠ i := fun e => hi (e ▸ (memN_eq _ _).1 hp1)
    simp only [List.map_cons, setEnv, getA_cons, if_neg hj]
    exact setEnv_keep hi h0 h1 hp2 h3
  | (j, .loc L) :: ps, l, hp, h => by
    obtain ⟨y, r, h2, _, h3, rfl⟩ := getPs_loc h
    simp only [psIn] at hp
    simp only [List.map_cons, setEnv, getA_cons]
    split
    · next hj =>
      subst hj
      rw [h1] at h2
      exact h2.symm
    · exact setEnv_keep hi h0 h1 hp h3
  | (j, .itr) :: ps, l, hp, h => by
    obtain ⟨q, p, r, h2, _, h3, rfl⟩ := getPs_itr h
    simp only [psIn] at hp
    simp only [List.map_cons, setEnv, getA_cons]
    split
    · next hj =>
      subst hj
      rw [h1] at h2
      exact h2.symm
    · exact setEnv_keep hi h0 h1 (condT hp).2 h3
theorem setLo_keep {env : Env} {lo : Lo} {lo0 : Lo} {i : Nat} {x : LoE} {as : List Nat} (h0 : getA lo0 i = some x) (h1 : getA lo i = some x) : ∀ {ps : List (Nat × PSh)} {l : List (Bool × Nat)}, psIn ps as false = true → getPs env lo ps = some l → getA (setLo ps (l.map (·.2)) lo0) i = some x
  | [], l, _, h => by cases h; exact h0
  | (j, .itr) :: ps, l, hp, h => by
    simp only [psIn, cond_false] at hp
    cases hp
  | (j, .sh s) :: ps, l, hp, h => by
    simp only [psIn] at hp
    obtain ⟨_, hp⟩ := condT hp
    obtain ⟨e0, fl, n, r, _, h2, h3, rfl⟩ := getPs_sh h
    simp only [List.map_cons, setLo]
    exact setLo_keep h0 h1 hp h3
  | (j, .loc L) :: ps, l, hp, h => by
    simp only [psIn] at hp
    obtain ⟨y, r, _, h2, h3, rfl⟩ := getPs_loc h
    simp only [List.map_cons, setLo, getA_cons]
    split
    · next hj =>
      subst hj
      rw [h1] at h2
      exact h2.symm
    · exact setLo_keep h0 h1 hp h3

/-- What code leaves as it is. -/
structure Fr (as : List Nat) (st : Bool) (env env' : Env) (lo lo' : Lo) : Prop where
  noGd : NoGd env'
  env : ∀ t e, t ∉ as → getA env t = some e → getA env' t = some e
  lo : st = false → ∀ t e, t ∉ as → getA lo t = some e → getA lo' t = some e
theorem Fr.refl {as : List Nat} {st : Bool} {env : Env} {lo : Lo} (h : NoGd env) : Fr as st env env lo lo := ⟨h, fun _ _ _ h => h, fun _ _ _ _ h => h⟩
theorem Fr.trans {as : List Nat} {st : Bool} {env env' env'' : Env} {lo lo' lo'' : Lo} (h : Fr as st env env' lo lo') (h' : Fr as st env' env'' lo' lo'') : Fr as st env env'' lo lo'' :=
  ⟨h'.noGd, fun t e ht he => h'.env t e ht (h.env t e ht he), fun hs t e ht he => h'.lo hs t e ht (h.lo hs t e ht he)⟩
theorem Fr.more {as as' : List Nat} {st st' : Bool} {env env' : Env} {lo lo' : Lo} (h : Fr as st env env' lo lo') (h1 : ∀ t, t ∉ as' → t ∉ as) (h2 : st' = false → st = false) : Fr as' st' env env' lo lo' :=
  ⟨h.noGd, fun t e ht => h.env t e (h1 t ht), fun hs t e ht => h.lo (h2 hs) t e (h1 t ht)⟩
theorem entSh_noG (s : Sh) (x : Nat) : ∀ j w b e, entSh s x ≠ .g j w b e := by
  intro j w b e h
  unfold entSh at h
  split at h <;> cases h
theorem base_noGd {env env' : Env} {lo' : Lo} {x : Code} {ps : List (Nat × PSh)} {l : List (Bool × Nat)} (h : NoGd env) (hp : getPs env' lo' ps = some l) : NoGd (baseEnv env x ps (l.map (·.2))) := by
  intro i s w b e hi
  rcases setEnv_get hp hi with ⟨s', e0, fl, n, _, _, h3⟩ | (⟨⟨L, h3⟩, _⟩ | ⟨h3, _⟩) | h3
  · exact entSh_noG _ _ _ _ _ _ h3.symm
  · cases h3
  · cases h3
  · rw [shade_get] at h3
    split at h3
    · cases h3
    · exact h _ _ _ _ _ h3
theorem base_fr {env env' : Env} {lo lo' : Lo} {x : Code} {ps : List (Nat × PSh)} {l : List (Bool × Nat)} (hn : NoGd env) (h : Fr (asg x) (hasSt x) env env' lo lo') (hin : psIn ps (asg x) (hasSt x) = true) (hp : getPs env' lo' ps = some l) :
    Fr (asg x) (hasSt x) env (baseEnv env x ps (l.map (·.2))) lo (baseLo lo x ps (l.map (·.2))) := by
  refine ⟨base_noGd hn hp, fun t e ht he => setEnv_keep ht ?_ (h.env t e ht he) hin hp, fun hs t e ht he => setLo_keep (as := asg x) ?_ (h.lo hs t e ht he) (by rw [hs] at hin; exact hin) hp⟩
  · rw [shade_get, if_neg ht]
    exact he
  · rw [hs, cond_false, shade_get, if_neg ht]
    exact he
theorem base_ok {nt : Nat} {G : Nat → Prop} {N : Nm} {lam : Nat → Nat} {c : Core} {a : Act} {w : World} {env env' : Env} {lo lo' : Lo} {x : Code} {ps : List (Nat × PSh)} {l : List (Bool × Nat)} (hn : NoGd env) (h : Fr (asg x) (hasSt x) env env' lo lo') (hp : getPs env' lo' ps = some l)
    (hok : OK nt G N lam env' lo' c a w) : OK nt G N lam (baseEnv env x ps (l.map (·.2))) (baseLo lo x ps (l.map (·.2))) c a w := by
  refine hok.weak (base_noGd hn hp) (fun i e hi => ?_) (fun i y hi => ?_)
  · rcases setEnv_get hp hi with ⟨s', e0, fl, n, h1, h2, rfl⟩ | (⟨_, h3⟩ | ⟨_, h3⟩) | h3
    · exact ⟨e0, h1, fun v hv => entSh_ok (toN_ok h2 hv)⟩
    · exact ⟨_, h3, fun v hv => hv⟩
    · exact ⟨_, h3, fun v hv => hv⟩
    · rw [shade_get] at h3
      split at h3
      · cases h3
      · next ht => exact ⟨e, h.env i e ht h3, fun v hv => hv⟩
  · rcases setLo_get hp hi with h3 | ⟨q, p, h3, rfl⟩ | h3
    · exact h3
    · obtain ⟨bs, ⟨h4, h5⟩, _⟩ := hok.re.itr i q p h3
      have h6 : p < 65536 := by
        have := h4.1
        omega
      obtain ⟨e1, e2⟩ := pack16 (q := q) h6
      rw [e1, e2]
      exact h3
    · cases hs : hasSt x with
      | true => rw [hs] at h3; cases h3
      | false =>
        rw [hs, cond_false, shade_get] at h3
        split at h3
        · cases h3
        · next ht => exact h.lo hs i y ht h3
theorem jump_eq {ps : List (Nat × PSh)} {g : List Nat → Core → Bool} {env : Env} {lo : Lo} {c : Core} : jump ps (NF.of (lenP ps) g) env lo c = (match getPs env lo ps with | some l => g (l.map (·.2)) c | none => false) := by
  unfold jump
  split
  · next l hl =>
    rw [forceAll_eq, ap_of _ _ _ _ (by rw [List.length_map, getPs_len hl]), hl]
  · next hl => rw [hl]
theorem jump_to {ps : List (Nat × PSh)} {J : NF (lenP ps)} {env : Env} {lo : Lo} {c : Core} : jump ps J env lo c = (match getPs env lo ps with | some l => NF.ap (lenP ps) J (l.map (·.2)) c | none => false) := by
  unfold jump
  split
  · next l hl => rw [forceAll_eq, hl]
  · next hl => rw [hl]
theorem jump_none {ps : List (Nat × PSh)} {J : NF (lenP ps)} {env : Env} {lo : Lo} {c : Core} (h : getPs env lo ps = none) : jump ps J env lo c = false := by rw [jump_to, h]
theorem jump_some {ps : List (Nat × PSh)} {J : NF (lenP ps)} {env : Env} {lo : Lo} {c : Core} {l : List (Bool × Nat)} (h : getPs env lo ps = some l) : jump ps J env lo c = NF.ap (lenP ps) J (l.map (·.2)) c := by rw [jump_to, h]
end Go.Proofs.YtaekfgbfpfecdaaGreat.VM

/- Code run in a scope, in which it may jump to a label; no conditions but those that each theorem names. -/
namespace Go.Proofs.YtaekfgbfpfecdaaGreat.VM
open Go
set_option linter.unusedVariables false
set_option linter.unusedSimpArgs false
variable {P : Program} [Df]
set_option linter.unusedSectionVars false

/-- Code run in a scope. -/
def wpIn (P : Program) (body x : Code) (Q : Exit → Act → World → Prop) (a : Act) (w : World) : Prop :=
  ∀ (b : Frame) (k : List Item) (cs : List Frame), ∃ e a' w', Q e a' w' ∧ Arrives P (lone (b.at a (.code x :: .inScope body :: k)) cs w) b (.inScope body :: k) cs e a' w'
theorem wpIn_of {body x : Code} {Q : Exit → Act → World → Prop} {a : Act} {w : World} (h : x.wp P Q a w) : wpIn P body x Q a w := fun b k cs => h b (.inScope body :: k) cs
theorem wpIn_goto {body x rest : Code} {l : Nat} (hf : findLabel body l = some rest) {Q R : Exit → Act → World → Prop} {a : Act} {w : World} (h : wpIn P body x Q a w) (hg : ∀ a' w', Q (.goto l) a' w' → wpIn P body rest R a' w')
    (ho : ∀ e a' w', e ≠ .goto l → Q e a' w' → R e a' w') : wpIn P body x R a w := by
  intro b k cs
  obtain ⟨e, a', w', hq, harr⟩ := h b k cs
  by_cases he : e = .goto l
  · subst he
    obtain ⟨e2, a2, w2, hq2, harr2⟩ := hg _ _ hq b k cs
    exact ⟨e2, a2, w2, hq2, .of_steps (harr _ (by simp [gotoIn, hf])) harr2⟩
  · exact ⟨e, a', w', ho _ _ _ he hq, harr⟩
theorem wp_scope_in {body : Code} {Q : Exit → Act → World → Prop} {a : Act} {w : World} (h : wpIn P body body Q a w) (hno : ∀ l a' w', Q (.goto l) a' w' → findLabel body l = none) : (Code.scope body).wp P Q a w := by
  intro b k cs
  obtain ⟨e, a₁, w₁, hq, harr⟩ := h b k cs
  cases e with
  | normal => exact ⟨.normal, a₁, w₁, hq, .head step_scope (Steps.trans harr (.one step_inScope))⟩
  | exit id => exact ⟨.exit id, a₁, w₁, hq, fun k' hk => .head step_scope (harr k' (by simp [exitTo, hk]))⟩
  | goto l => exact ⟨.goto l, a₁, w₁, hq, fun k' hk => .head step_scope (harr k' (by simp [gotoIn, hno _ _ _ hq, hk]))⟩
  | ret => exact ⟨_, a₁, w₁, hq, .of_steps (.one step_scope) harr⟩
  | panic ch => exact ⟨_, a₁, w₁, hq, .of_steps (.one step_scope) harr⟩
  | outgrown => exact ⟨_, a₁, w₁, hq, .of_steps (.one step_scope) harr⟩

theorem label_asg {l : Nat} : ∀ {x rest : Code}, findLabel x l = some rest → (∀ t, t ∉ asg x → t ∉ asg rest) ∧ (hasSt x = false → hasSt rest = false) := by
  intro x
  induction x with
  | seq a b iha ihb =>
    intro rest h
    simp only [findLabel] at h
    simp only [asg, appN_eq, hasSt, Bool.or_eq_false_iff]
    split at h
    · next r hr =>
      cases h
      obtain ⟨h1, h2⟩ := iha hr
      refine ⟨fun t ht => ?_, fun hs => ?_⟩
      · simp only [asg, appN_eq, List.mem_append, not_or] at ht ⊢
        exact ⟨h1 t ht.1, ht.2⟩
      · simp only [hasSt, Bool.or_eq_false_iff]
        exact ⟨h2 hs.1, hs.2⟩
    · obtain ⟨h1, h2⟩ := ihb h
      refine ⟨fun t ht => h1 t ?_, fun hs => h2 hs.2⟩
      simp only [List.mem_append, not_or] at ht
      exact ht.2
  | label l' =>
    intro rest h
    simp only [findLabel] at h
    split at h
    · cases h
      exact ⟨fun t ht => by simp [asg], fun _ => rfl⟩
    · cases h
  | _ => intro rest h; simp only [findLabel] at h; cases h
/-- May stand there: a label's pass, within a scope alone. -/
def An.okB : An → Bool → Bool
  | .lb _ _ _ r a, s => s && r.okB false && a.okB true
  | .sc a, _ => a.okB true
  | .sq a b, _ => a.okB false && b.okB false
  | .sj _ a b, _ => a.okB false && b.okB false
  | .cd a b, _ => a.okB false && b.okB false
  | .bl a, _ => a.okB false
  | .lp _ _ a, _ => a.okB false
  | .mn a, _ => a.okB false
  | _, _ => true
def exOf : Ex → Exit
  | .nm => .normal
  | .ex id => .exit id
  | .rt => .ret
  | .gt l => .goto l
theorem exOf_goto {e : Ex} {l : Nat} (h : exOf e = .goto l) : e = .gt l := by
  cases e <;> simp only [exOf] at h <;> first | (cases h; done) | skip
  injection h with h
  rw [h]
def DefE (F : Kont → Bool) (R : Ex → Env → Lo → Core → Prop) : Prop := (∀ k, F k = false) ∨ ∃ e env lo c, R e env lo c ∧ ∀ k, F k = k e env lo c
abbrev Wp := (Exit → Act → World → Prop) → Act → World → Prop
structure Snd (I : FI) (x : Code) (W : Wp) (env : Env) (lo : Lo) (c : Core) (e : Ex) (env' : Env) (lo' : Lo) (c' : Core) : Prop where
  fr : Fr (asg x) (hasSt x) env env' lo lo'
  run : ∀ G N lam a w, OK I.nt G N lam env lo c a w → ∀ Q : Exit → Act → World → Prop, (∀ a' w', After I.nt G N w env' lo' c' a' w' → Q (exOf e) a' w') → W Q a w
end Go.Proofs.YtaekfgbfpfecdaaGreat.VM

/- Code, as the machine has it and as the model has it; no conditions but those that each theorem names. -/
namespace Go.Proofs.YtaekfgbfpfecdaaGreat.VM
open Go
set_option linter.unusedVariables false
set_option linter.unusedSimpArgs false
variable {P : Program} [Df]
set_option linter.unusedSectionVars false

theorem DefE.no {R : Ex → Env → Lo → Core → Prop} : DefE (fun _ => false) R := .inl fun _ => rfl
theorem After.chain {I : FI} {G : Nat → Prop} {N : Nm} {w : World} {env : Env} {lo : Lo} {c : Core} {a' : Act} {w' : World} (h : After I.nt G N w env lo c a' w') {P' : Prop} (hk : ∀ N' lam', OK I.nt G N' lam' env lo c a' w' → Ext N N' → Same G w w' → w.heap.size ≤ w'.heap.size → P') : P' := by
  obtain ⟨N', lam', e, o, s, l⟩ := h
  exact hk N' lam' o e s l
theorem Snd.here {I : FI} {x : Code} {env : Env} {lo : Lo} {c : Core} {e : Ex} (hn : NoGd env) (h : ∀ Q a w, Q (exOf e) a w → x.wp P Q a w) : Snd I x (x.wp P) env lo c e env lo c :=
  ⟨Fr.refl hn, fun G N lam a w hok Q hQ => h Q a w (hQ a w hok.after)⟩

theorem reg_ok (hF : Facts P) {I : FI} (hfns : FnsOK P I.fns) {id : Nat} {ops : Array Oper} {env : Env} {lo : Lo} {c : Core} (hn : NoGd env) :
    DefE (fun k => denOps I ops.toList ops.toList env lo c (fun env lo c => k .nm (stripG env) lo c)) (Snd I (.region id ops false) ((Code.region id ops false).wp P) env lo c) := by
  rcases denOps_ok (P := P) hF (ops := ops) hfns ops.size 0 env lo c (by omega) with h | ⟨env1, lo1, c1, h1, h2⟩
  · exact .inl fun k => h _
  · rcases ops_leave (P := P) hfns (all := ops.toList) (l := ops.toList) (env := env) (lo := lo) (c := c) (fun o ho => ho) with h | ⟨env2, lo2, c2, h3, h4⟩
    · exact .inl fun k => h _
    · obtain ⟨rfl, rfl, rfl⟩ := one_end fun k => (h1 k).symm.trans (h3 k)
      refine .inr ⟨.nm, stripG env1, lo1, c1, ⟨⟨strip_noGd _, fun t e ht he => ?_, fun hs t e ht he => ?_⟩, fun G N lam a w hok Q hQ => wp_region ?_⟩, fun k => h1 _⟩
      · rw [strip_get, h4.env t ht, he]
        cases e <;> first | rfl | exact absurd he (hn _ _ _ _ _)
      · rw [h4.lo hs t ht]; exact he
      · have := h2 G N lam a w hok Q fun a' w' hA => hQ a' w' hA.strip
        rw [List.range_eq_range']
        exact this
theorem drw_ok (hF : Facts P) (hm : P.follows .mixedOrders = true) {I : FI} (hfns : FnsOK P I.fns) {id : Nat} {ops : Array Oper} {pi : List (Nat × Nat)} {env : Env} {lo : Lo} {c : Core} (hn : NoGd env) :
    DefE (fun k => denDrawn I ops pi env lo c (fun env lo c => k .nm (stripG env) lo c)) (Snd I (.region id ops true) ((Code.region id ops true).wp P) env lo c) := by
  rcases drawn_ok (P := P) hF hm hfns (id := id) (ops := ops) (pi := pi) (env := env) (lo := lo) (c := c) with h | ⟨env1, lo1, c1, h1, h2⟩
  · exact .inl fun k => h _
  · have hl : ∀ k : Env → Lo → Core → Bool, drwOk I ops (masksOf ops.toList pi []) pi 0 = true → denDrw I ops.toList (masksOf ops.toList pi []) pi [] env lo c k = k env1 lo1 c1 := fun k hk => by
      have := h1 k
      unfold denDrawn at this
      rw [hk] at this
      exact this
    cases hk : drwOk I ops (masksOf ops.toList pi []) pi 0 with
    | false => exact .inl fun k => by unfold denDrawn; rw [hk]; rfl
    | true =>
      have hl := fun k => hl k hk
      rcases drw_leave (P := P) hfns (ops := ops) (ms := masksOf ops.toList pi []) (rest := pi) (done := []) (env := env) (lo := lo) (c := c) with h | ⟨env2, lo2, c2, h3, h4⟩
      · exact .inl fun k => by unfold denDrawn; rw [hk]; exact h _
      · obtain ⟨rfl, rfl, rfl⟩ := one_end fun k => (hl k).symm.trans (h3 k)
        refine .inr ⟨.nm, stripG env1, lo1, c1, ⟨⟨strip_noGd _, fun t e ht he => ?_, fun hs t e ht he => ?_⟩, fun G N lam a w hok Q hQ => h2 G N lam a w hok Q fun a' w' hA => hQ a' w' hA.strip⟩, fun k => h1 _⟩
        · rw [strip_get, h4.env t ht, he]
          cases e <;> first | rfl | exact absurd he (hn _ _ _ _ _)
        · rw [h4.lo hs t ht]; exact he

theorem mem_app {t : Nat} {a b : List Nat} (h : t ∉ appN a b) : t ∉ a ∧ t ∉ b := by
  rw [appN_eq, List.mem_append, not_or] at h
  exact h
theorem or_no {a b : Bool} (h : (a || b) = false) : a = false ∧ b = false := by cases a <;> cases b <;> simp_all
theorem run_after {I : FI} {G : Nat → Prop} {N : Nm} {w : World} {env1 env2 : Env} {lo1 lo2 : Lo} {c1 c2 : Core} {a1 : Act} {w1 : World} {x : Code} {W : Wp} {e : Ex} (hA : After I.nt G N w env1 lo1 c1 a1 w1) (hs : ∀ N' lam', OK I.nt G N' lam' env1 lo1 c1 a1 w1 → ∀ Q : Exit → Act → World → Prop, (∀ a' w', After I.nt G N' w1 env2 lo2 c2 a' w' → Q (exOf e) a' w') → W Q a1 w1)
    {Q : Exit → Act → World → Prop} (hQ : ∀ a' w', After I.nt G N w env2 lo2 c2 a' w' → Q (exOf e) a' w') : W Q a1 w1 := by
  obtain ⟨N', lam', e, o, s, l⟩ := hA
  exact hs N' lam' o Q fun a' w' hA' => hQ _ _ (hA'.trans e s l)

/-- One after the other. -/
theorem seq_end {I : FI} {x y : Code} {env env1 : Env} {lo lo1 : Lo} {c c1 : Core} {e : Ex} (he : e ≠ .nm) (h : Snd I x (x.wp P) env lo c e env1 lo1 c1) : Snd I (.seq x y) ((Code.seq x y).wp P) env lo c e env1 lo1 c1 := by
  refine ⟨h.fr.more (fun t ht => (mem_app ht).1) (fun hs => (or_no hs).1), fun G N lam a w hok Q hQ => wp_seq (h.run G N lam a w hok _ fun a' w' hA => ?_)⟩
  have := hQ a' w' hA
  cases e <;> first | exact absurd rfl he | exact this
theorem seq_on {I : FI} {x y : Code} {env env1 envB env2 : Env} {lo lo1 loB lo2 : Lo} {c c1 c2 : Core} {e : Ex} (h : Snd I x (x.wp P) env lo c .nm env1 lo1 c1) (hB : Fr (asg x) (hasSt x) env envB lo loB) (hb : ∀ G N lam a w, OK I.nt G N lam env1 lo1 c1 a w → OK I.nt G N lam envB loB c1 a w)
    (h2 : Snd I y (y.wp P) envB loB c1 e env2 lo2 c2) : Snd I (.seq x y) ((Code.seq x y).wp P) env lo c e env2 lo2 c2 := by
  refine ⟨(hB.more (fun t ht => (mem_app ht).1) (fun hs => (or_no hs).1)).trans (h2.fr.more (fun t ht => (mem_app ht).2) (fun hs => (or_no hs).2)), fun G N lam a w hok Q hQ => wp_seq (h.run G N lam a w hok _ fun a' w' hA => ?_)⟩
  obtain ⟨N', lam', e', o, s, l⟩ := hA
  exact h2.run G N' lam' a' w' (hb _ _ _ _ _ o) Q fun a'' w'' hA' => hQ _ _ (hA'.trans e' s l)

/-- What den gives of an annotation. -/
def Good (P : Program) (I : FI) (an : An) : Prop := ∀ x env lo c, NoGd env → DefE (den I an x env lo c) (Snd I x (x.wp P) env lo c)
def GoodIn (P : Program) (I : FI) (an : An) : Prop := ∀ x env lo c, NoGd env → DefE (den I an x env lo c) (Snd I x (wpIn P x x) env lo c)
theorem Good.inn {I : FI} {an : An} (h : Good P I an) : GoodIn P I an := by
  intro x env lo c hn
  rcases h x env lo c hn with h | ⟨e, env1, lo1, c1, h1, h2⟩
  · exact .inl h
  · exact .inr ⟨e, env1, lo1, c1, ⟨h1.fr, fun G N lam a w hok Q hQ => wpIn_of (h1.run G N lam a w hok Q hQ)⟩, h2⟩

theorem sq_ok {I : FI} {a b : An} (ha : Good P I a) (hb : Good P I b) : Good P I (.sq a b) := by
  intro code env lo c hn
  cases code <;> first | exact .inl fun k => rfl | skip
  next x y =>
  have e : ∀ k, den I (.sq a b) (.seq x y) env lo c k = den I a x env lo c (fun e env lo c => match e with
    | .nm => den I b y env lo c k
    | e => k e env lo c) := fun k => rfl
  rcases ha x env lo c hn with h | ⟨e1, env1, lo1, c1, h1, h2⟩
  · exact .inl fun k => (e k).trans (h _)
  · by_cases he : e1 = .nm
    · subst he
      rcases hb y env1 lo1 c1 h1.fr.noGd with h | ⟨e2, env2, lo2, c2, h3, h4⟩
      · exact .inl fun k => ((e k).trans (h2 _)).trans (h _)
      · exact .inr ⟨e2, env2, lo2, c2, seq_on h1 h1.fr (fun _ _ _ _ _ h => h) h3, fun k => ((e k).trans (h2 _)).trans (h4 _)⟩
    · refine .inr ⟨e1, env1, lo1, c1, seq_end he h1, fun k => ((e k).trans (h2 _)).trans ?_⟩
      cases e1 <;> first | exact absurd rfl he | rfl
theorem sj_ok {I : FI} {ps : List (Nat × PSh)} {a b : An} (ha : Good P I a) (hb : Good P I b) : Good P I (.sj ps a b) := by
  intro code env lo c hn
  cases code <;> first | exact .inl fun k => rfl | skip
  next x y =>
  have e : ∀ k, den I (.sj ps a b) (.seq x y) env lo c k = cond (psIn ps (asg x) (hasSt x)) (join (NF.of (lenP ps) (fun l c => den I b y (baseEnv env x ps l) (baseLo lo x ps l) c k))
      (fun J => den I a x env lo c (fun e env' lo' c' => match e with
        | .nm => jump ps J env' lo' c'
        | e => k e env' lo' c'))) false := fun k => rfl
  cases hin : psIn ps (asg x) (hasSt x) with
  | false => exact .inl fun k => by rw [e, hin]; rfl
  | true =>
  simp only [hin, cond_true, join_eq] at e
  rcases ha x env lo c hn with h | ⟨e1, env1, lo1, c1, h1, h2⟩
  · exact .inl fun k => (e k).trans (h _)
  · by_cases he : e1 = .nm
    · subst he
      cases hp : getPs env1 lo1 ps with
      | none => exact .inl fun k => ((e k).trans (h2 _)).trans (jump_none hp)
      | some l =>
        have e' := fun k => (((e k).trans (h2 _)).trans (jump_some hp)).trans (ap_of _ _ _ _ (by rw [List.length_map, getPs_len hp]))
        rcases hb y _ _ c1 (base_noGd (x := x) hn hp) with h | ⟨e2, env2, lo2, c2, h3, h4⟩
        · exact .inl fun k => (e' k).trans (h _)
        · exact .inr ⟨e2, env2, lo2, c2, seq_on h1 (base_fr hn h1.fr hin hp) (fun _ _ _ _ _ h => base_ok hn h1.fr hp h) h3, fun k => (e' k).trans (h4 _)⟩
    · refine .inr ⟨e1, env1, lo1, c1, seq_end he h1, fun k => ((e k).trans (h2 _)).trans ?_⟩
      cases e1 <;> first | exact absurd rfl he | rfl
theorem cd_ok {I : FI} {a b : An} (ha : Good P I a) (hb : Good P I b) : Good P I (.cd a b) := by
  intro code env lo c hn
  cases code <;> first | exact .inl fun k => rfl | skip
  next q x y =>
  have e : ∀ k, den I (.cd a b) (.cond q x y) env lo c k = (match evO env q with
    | some e => match asB e with
      | some t => cond t (den I a x env lo c k) (den I b y env lo c k)
      | none => false
    | none => false) := fun k => rfl
  cases hq : evO env q with
  | none => exact .inl fun k => by rw [e, hq]
  | some eq =>
  cases ht : asB eq with
  | none => exact .inl fun k => by rw [e, hq]; simp only [ht]
  | some t =>
  simp only [hq, ht] at e
  have hv : ∀ {G N lam a w}, OK I.nt G N lam env lo c a w → a.eval q = .bool t := fun hok => asB_ok ht (evO_ok hok.pools hok.re hq)
  cases t with
  | true =>
    rcases ha x env lo c hn with h | ⟨e1, env1, lo1, c1, h1, h2⟩
    · exact .inl fun k => (e k).trans (h _)
    · exact .inr ⟨e1, env1, lo1, c1, ⟨h1.fr.more (fun t ht => (mem_app ht).1) (fun hs => (or_no hs).1), fun G N lam a w hok Q hQ => wp_cond_true (hv hok) (h1.run G N lam a w hok Q hQ)⟩, fun k => (e k).trans (h2 k)⟩
  | false =>
    rcases hb y env lo c hn with h | ⟨e1, env1, lo1, c1, h1, h2⟩
    · exact .inl fun k => (e k).trans (h _)
    · exact .inr ⟨e1, env1, lo1, c1, ⟨h1.fr.more (fun t ht => (mem_app ht).2) (fun hs => (or_no hs).2), fun G N lam a w hok Q hQ => wp_cond_false (hv hok) (h1.run G N lam a w hok Q hQ)⟩, fun k => (e k).trans (h2 k)⟩
theorem bl_ok {I : FI} {a : An} (ha : Good P I a) : Good P I (.bl a) := by
  intro code env lo c hn
  cases code <;> first | exact .inl fun k => rfl | skip
  next id x =>
  have e : ∀ k, den I (.bl a) (.block id x) env lo c k = den I a x env lo c (fun e env lo c => match e with
    | .ex i => cond (Nat.beq i id) (k .nm env lo c) (k (.ex i) env lo c)
    | e => k e env lo c) := fun k => rfl
  rcases ha x env lo c hn with h | ⟨e1, env1, lo1, c1, h1, h2⟩
  · exact .inl fun k => (e k).trans (h _)
  · cases e1 with
    | ex i =>
      cases hi : Nat.beq i id with
      | true =>
        have hid := Nat.eq_of_beq_eq_true hi
        subst hid
        refine .inr ⟨.nm, env1, lo1, c1, ⟨h1.fr, fun G N lam a w hok Q hQ => wp_block (h1.run G N lam a w hok _ fun a' w' hA => ?_)⟩, fun k => ((e k).trans (h2 _)).trans (by simp)⟩
        simp only [exOf, Exit.inBlock, if_true]
        exact hQ a' w' hA
      | false =>
        have hid : i ≠ id := fun e => by subst e; simp at hi
        refine .inr ⟨.ex i, env1, lo1, c1, ⟨h1.fr, fun G N lam a w hok Q hQ => wp_block (h1.run G N lam a w hok _ fun a' w' hA => ?_)⟩, fun k => ((e k).trans (h2 _)).trans (by simp only [hi, cond_false])⟩
        simp only [exOf, Exit.inBlock, if_neg hid]
        exact hQ a' w' hA
    | nm => exact .inr ⟨.nm, env1, lo1, c1, ⟨h1.fr, fun G N lam a w hok Q hQ => wp_block (h1.run G N lam a w hok _ fun a' w' hA => hQ a' w' hA)⟩, fun k => (e k).trans (h2 _)⟩
    | rt => exact .inr ⟨.rt, env1, lo1, c1, ⟨h1.fr, fun G N lam a w hok Q hQ => wp_block (h1.run G N lam a w hok _ fun a' w' hA => hQ a' w' hA)⟩, fun k => (e k).trans (h2 _)⟩
    | gt l => exact .inr ⟨.gt l, env1, lo1, c1, ⟨h1.fr, fun G N lam a w hok Q hQ => wp_block (h1.run G N lam a w hok _ fun a' w' hA => hQ a' w' hA)⟩, fun k => (e k).trans (h2 _)⟩

/-- A loop's rounds. -/
theorem rounds_ok {I : FI} {ps : List (Nat × PSh)} {a : An} (ha : Good P I a) {x : Code} {env : Env} {lo : Lo} (hn : NoGd env) (hin : psIn ps (asg x) (hasSt x) = true) : ∀ (n : Nat) (l : List Nat) (c : Core), l.length = lenP ps → Fr (asg x) (hasSt x) env (baseEnv env x ps l) lo (baseLo lo x ps l) →
    DefE (fun k => NF.ap (lenP ps) (loopN n (NF.of (lenP ps) (fun _ _ => false)) (fun ih => NF.of (lenP ps) (fun l c => den I a x (baseEnv env x ps l) (baseLo lo x ps l) c (fun e env' lo' c' => match e with
      | .nm => jump ps ih env' lo' c'
      | e => k e env' lo' c')))) l c) (fun e env' lo' c' => e ≠ .nm ∧ Fr (asg x) (hasSt x) env env' lo lo' ∧
        ∀ G N lam a w, OK I.nt G N lam (baseEnv env x ps l) (baseLo lo x ps l) c a w → ∀ Q : Exit → Act → World → Prop, (∀ a' w', After I.nt G N w env' lo' c' a' w' → Q (exOf e) a' w') → Code.rounds P x Q n a w)
  | 0, l, c, hl, _ => .inl fun k => ap_of _ _ _ _ hl
  | n + 1, l, c, hl, hfr => by
    have e := fun k : Kont => ap_of (lenP ps) (fun l c => den I a x (baseEnv env x ps l) (baseLo lo x ps l) c (fun e env' lo' c' => match e with
      | .nm => jump ps (loopN n (NF.of (lenP ps) (fun _ _ => false)) (fun ih => NF.of (lenP ps) (fun l c => den I a x (baseEnv env x ps l) (baseLo lo x ps l) c (fun e env' lo' c' => match e with
      | .nm => jump ps ih env' lo' c'
      | e => k e env' lo' c')))) env' lo' c'
      | e => k e env' lo' c')) l c hl
    rcases ha x _ _ c hfr.noGd with h | ⟨e1, env1, lo1, c1, h1, h2⟩
    · exact .inl fun k => (e k).trans (h _)
    · by_cases he : e1 = .nm
      · subst he
        have hfr1 := hfr.trans h1.fr
        cases hp : getPs env1 lo1 ps with
        | none => exact .inl fun k => ((e k).trans (h2 _)).trans (jump_none hp)
        | some l1 =>
          have e' := fun k => ((e k).trans (h2 _)).trans (jump_some hp)
          rcases rounds_ok ha hn hin n (l1.map (·.2)) c1 (by rw [List.length_map, getPs_len hp]) (base_fr hn hfr1 hin hp) with h | ⟨e2, env2, lo2, c2, ⟨h3, h4, h5⟩, h6⟩
          · exact .inl fun k => (e' k).trans (h k)
          · refine .inr ⟨e2, env2, lo2, c2, ⟨h3, h4, fun G N lam a w hok Q hQ => ?_⟩, fun k => (e' k).trans (h6 k)⟩
            rw [rounds_succ]
            refine h1.run G N lam a w hok _ fun a' w' hA => ?_
            obtain ⟨N', lam', ex, o, s, sz⟩ := hA
            exact h5 G N' lam' a' w' (base_ok hn hfr1 hp o) Q fun a'' w'' hA' => hQ _ _ (hA'.trans ex s sz)
      · refine .inr ⟨e1, env1, lo1, c1, ⟨he, hfr.trans h1.fr, fun G N lam a w hok Q hQ => ?_⟩, fun k => ((e k).trans (h2 _)).trans ?_⟩
        · rw [rounds_succ]
          refine h1.run G N lam a w hok _ fun a' w' hA => ?_
          have := hQ a' w' hA
          cases e1 <;> first | exact absurd rfl he | exact this
        · cases e1 <;> first | exact absurd rfl he | rfl
theorem lp_ok {I : FI} {ps : List (Nat × PSh)} {fuel : Nat} {a : An} (ha : Good P I a) : Good P I (.lp ps fuel a) := by
  intro code env lo c hn
  cases code <;> first | exact .inl fun k => rfl | skip
  next x =>
  have e : ∀ k, den I (.lp ps fuel a) (.loop x) env lo c k = cond (psIn ps (asg x) (hasSt x)) (jump ps (loopN fuel (NF.of (lenP ps) (fun _ _ => false)) (fun ih => NF.of (lenP ps) (fun l c => den I a x (baseEnv env x ps l) (baseLo lo x ps l) c (fun e env' lo' c' => match e with
      | .nm => jump ps ih env' lo' c'
      | e => k e env' lo' c')))) env lo c) false := fun k => rfl
  cases hin : psIn ps (asg x) (hasSt x) with
  | false => exact .inl fun k => by rw [e, hin]; rfl
  | true =>
  simp only [hin, cond_true] at e
  cases hp : getPs env lo ps with
  | none => exact .inl fun k => (e k).trans (jump_none hp)
  | some l =>
    have e := fun k => (e k).trans (jump_some hp)
    have hfr : Fr (asg x) (hasSt x) env env lo lo := Fr.refl hn
    rcases rounds_ok (P := P) ha hn hin fuel (l.map (·.2)) c (by rw [List.length_map, getPs_len hp]) (base_fr hn hfr hin hp) with h | ⟨e2, env2, lo2, c2, ⟨h3, h4, h5⟩, h6⟩
    · exact .inl fun k => (e k).trans (h k)
    · exact .inr ⟨e2, env2, lo2, c2, ⟨h4, fun G N lam a w hok Q hQ => wp_loop_rounds fuel (h5 G N lam a w (base_ok hn hfr hp hok) Q hQ)⟩, fun k => (e k).trans (h6 k)⟩
theorem sc_ok {I : FI} {a : An} (ha : GoodIn P I a) : Good P I (.sc a) := by
  intro code env lo c hn
  cases code <;> first | exact .inl fun k => rfl | skip
  next x =>
  have e : ∀ k, den I (.sc a) (.scope x) env lo c k = den I a x env lo c (fun e env lo c => match e with
    | .gt l => match findLabel x l with
      | none => k (.gt l) env lo c
      | some _ => false
    | e => k e env lo c) := fun k => rfl
  rcases ha x env lo c hn with h | ⟨e1, env1, lo1, c1, h1, h2⟩
  · exact .inl fun k => (e k).trans (h _)
  · have e' := fun k => (e k).trans (h2 _)
    have fin : (∀ l, e1 = .gt l → findLabel x l = none) → Snd I (.scope x) ((Code.scope x).wp P) env lo c e1 env1 lo1 c1 := fun hno => by
      refine ⟨h1.fr, fun G N lam a w hok Q hQ => ?_⟩
      refine wp_mono (wp_scope_in (Q := fun ex a' w' => ex = exOf e1 ∧ Q ex a' w') (h1.run G N lam a w hok _ fun a' w' hA => ⟨rfl, hQ a' w' hA⟩) fun l a' w' hq => hno l (exOf_goto hq.1.symm)) fun e a w h => h.2
    cases e1 with
    | gt l =>
      cases hf : findLabel x l with
      | some r => exact .inl fun k => (e' k).trans (by simp only [hf])
      | none => exact .inr ⟨.gt l, env1, lo1, c1, fin (fun l' h => by cases h; exact hf), fun k => (e' k).trans (by simp only [hf])⟩
    | nm => exact .inr ⟨.nm, env1, lo1, c1, fin (fun l h => by cases h), e'⟩
    | rt => exact .inr ⟨.rt, env1, lo1, c1, fin (fun l h => by cases h), e'⟩
    | ex i => exact .inr ⟨.ex i, env1, lo1, c1, fin (fun l h => by cases h), e'⟩
end Go.Proofs.YtaekfgbfpfecdaaGreat.VM

/- Labels, and code whole; no conditions but those that each theorem names. -/
namespace Go.Proofs.YtaekfgbfpfecdaaGreat.VM
open Go
set_option linter.unusedVariables false
set_option linter.unusedSimpArgs false
variable {P : Program} [Df]
set_option linter.unusedSectionVars false

theorem gt_ne {e : Ex} {l : Nat} (h : e ≠ .gt l) : ∀ (k : Kont) (j : Env → Lo → Core → Bool) env lo c, (match (generalizing := false) e with
        | .gt l' => cond (Nat.beq l' l) (j env lo c) (k (.gt l') env lo c)
        | e => k e env lo c) = k e env lo c := by
  intro k j env lo c
  cases e with
  | gt l' =>
    have hl : Nat.beq l' l = false := by
      cases hq : Nat.beq l' l
      · rfl
      · exact absurd (by rw [Nat.eq_of_beq_eq_true hq]) h
    simp only [hl, cond_false]
  | _ => rfl
/-- From a label on, time and again. -/
theorem pass_ok {I : FI} {ps : List (Nat × PSh)} {r : An} (hr : Good P I r) {x rest : Code} {lb : Nat} (hf : findLabel x lb = some rest) {env : Env} {lo : Lo} (hn : NoGd env) (hin : psIn ps (asg x) (hasSt x) = true) : ∀ (n : Nat) (l : List Nat) (c : Core), l.length = lenP ps → Fr (asg x) (hasSt x) env (baseEnv env x ps l) lo (baseLo lo x ps l) →
    DefE (fun k => NF.ap (lenP ps) (loopN n (NF.of (lenP ps) (fun _ _ => false)) (fun ih => NF.of (lenP ps) (fun xs c => den I r rest (baseEnv env x ps xs) (baseLo lo x ps xs) c (fun e env' lo' c' => match e with
        | .gt l' => cond (Nat.beq l' lb) (jump ps ih env' lo' c') (k (.gt l') env' lo' c')
        | e => k e env' lo' c')))) l c) (fun e env' lo' c' => Fr (asg x) (hasSt x) env env' lo lo' ∧
        ∀ G N lam a w, OK I.nt G N lam (baseEnv env x ps l) (baseLo lo x ps l) c a w → ∀ Q : Exit → Act → World → Prop, (∀ a' w', After I.nt G N w env' lo' c' a' w' → Q (exOf e) a' w') → wpIn P x rest Q a w)
  | 0, l, c, hl, _ => .inl fun k => ap_of _ _ _ _ hl
  | n + 1, l, c, hl, hfr => by
    obtain ⟨hl1, hl2⟩ := label_asg hf
    have e := fun k : Kont => ap_of (lenP ps) (fun xs c => den I r rest (baseEnv env x ps xs) (baseLo lo x ps xs) c (fun e env' lo' c' => match e with
        | .gt l' => cond (Nat.beq l' lb) (jump ps (loopN n (NF.of (lenP ps) (fun _ _ => false)) (fun ih => NF.of (lenP ps) (fun xs c => den I r rest (baseEnv env x ps xs) (baseLo lo x ps xs) c (fun e env' lo' c' => match e with
        | .gt l' => cond (Nat.beq l' lb) (jump ps ih env' lo' c') (k (.gt l') env' lo' c')
        | e => k e env' lo' c')))) env' lo' c') (k (.gt l') env' lo' c')
        | e => k e env' lo' c')) l c hl
    rcases hr rest _ _ c hfr.noGd with h | ⟨e1, env1, lo1, c1, h1, h2⟩
    · exact .inl fun k => (e k).trans (h _)
    · have hfr1 := hfr.trans (h1.fr.more hl1 hl2)
      by_cases he : e1 = .gt lb
      · subst he
        have hb : ∀ (x y : Bool), cond (Nat.beq lb lb) x y = x := fun x y => by rw [Nat.beq_refl]; rfl
        cases hp : getPs env1 lo1 ps with
        | none => exact .inl fun k => ((e k).trans (h2 _)).trans ((hb _ _).trans (jump_none hp))
        | some l1 =>
          have e' := fun k => ((e k).trans (h2 _)).trans ((hb _ _).trans (jump_some hp))
          rcases pass_ok hr hf hn hin n (l1.map (·.2)) c1 (by rw [List.length_map, getPs_len hp]) (base_fr hn hfr1 hin hp) with h | ⟨e2, env2, lo2, c2, ⟨h4, h5⟩, h6⟩
          · exact .inl fun k => (e' k).trans (h k)
          · refine .inr ⟨e2, env2, lo2, c2, ⟨h4, fun G N lam a w hok Q hQ => ?_⟩, fun k => (e' k).trans (h6 k)⟩
            refine wpIn_goto hf (Q := fun ex a' w' => ex = .goto lb ∧ wpIn P x rest Q a' w') (wpIn_of (h1.run G N lam a w hok _ fun a' w' hA => ⟨rfl, ?_⟩)) (fun a' w' hq => hq.2) (fun ex a' w' hne hq => absurd hq.1 hne)
            obtain ⟨N', lam', ex, o, s, sz⟩ := hA
            exact h5 G N' lam' a' w' (base_ok hn hfr1 hp o) Q fun a'' w'' hA' => hQ _ _ (hA'.trans ex s sz)
      · exact .inr ⟨e1, env1, lo1, c1, ⟨hfr1, fun G N lam a w hok Q hQ => wpIn_of (h1.run G N lam a w hok Q hQ)⟩, fun k => ((e k).trans (h2 _)).trans (gt_ne he k _ env1 lo1 c1)⟩
theorem lb_ok {I : FI} {lb : Nat} {ps : List (Nat × PSh)} {fuel : Nat} {r a : An} (hr : Good P I r) (ha : GoodIn P I a) : GoodIn P I (.lb lb ps fuel r a) := by
  intro x env lo c hn
  have e : ∀ k, den I (.lb lb ps fuel r a) x env lo c k = (match findLabel x lb with
    | none => false
    | some rest => cond (psIn ps (asg x) (hasSt x)) (join (loopN fuel (NF.of (lenP ps) (fun _ _ => false)) (fun ih => NF.of (lenP ps) (fun xs c => den I r rest (baseEnv env x ps xs) (baseLo lo x ps xs) c (fun e env' lo' c' => match e with
        | .gt l' => cond (Nat.beq l' lb) (jump ps ih env' lo' c') (k (.gt l') env' lo' c')
        | e => k e env' lo' c'))))
      (fun J => den I a x env lo c (fun e env' lo' c' => match e with
        | .gt l' => cond (Nat.beq l' lb) (jump ps J env' lo' c') (k (.gt l') env' lo' c')
        | e => k e env' lo' c'))) false) := fun k => by cases x <;> rfl
  cases hf : findLabel x lb with
  | none => exact .inl fun k => by rw [e, hf]
  | some rest =>
  simp only [hf] at e
  cases hin : psIn ps (asg x) (hasSt x) with
  | false => exact .inl fun k => by rw [e, hin]; rfl
  | true =>
  simp only [hin, cond_true, join_eq] at e
  rcases ha x env lo c hn with h | ⟨e1, env1, lo1, c1, h1, h2⟩
  · exact .inl fun k => (e k).trans (h _)
  · by_cases he : e1 = .gt lb
    · subst he
      have hb : ∀ (x y : Bool), cond (Nat.beq lb lb) x y = x := fun x y => by rw [Nat.beq_refl]; rfl
      cases hp : getPs env1 lo1 ps with
      | none => exact .inl fun k => ((e k).trans (h2 _)).trans ((hb _ _).trans (jump_none hp))
      | some l1 =>
        have e' := fun k => ((e k).trans (h2 _)).trans ((hb _ _).trans (jump_some hp))
        rcases pass_ok (P := P) hr hf hn hin fuel (l1.map (·.2)) c1 (by rw [List.length_map, getPs_len hp]) (base_fr hn h1.fr hin hp) with h | ⟨e2, env2, lo2, c2, ⟨h4, h5⟩, h6⟩
        · exact .inl fun k => (e' k).trans (h k)
        · refine .inr ⟨e2, env2, lo2, c2, ⟨h4, fun G N lam a w hok Q hQ => ?_⟩, fun k => (e' k).trans (h6 k)⟩
          refine wpIn_goto hf (Q := fun ex a' w' => ex = .goto lb ∧ wpIn P x rest Q a' w') (h1.run G N lam a w hok _ fun a' w' hA => ⟨rfl, ?_⟩) (fun a' w' hq => hq.2) (fun ex a' w' hne hq => absurd hq.1 hne)
          obtain ⟨N', lam', ex, o, s, sz⟩ := hA
          exact h5 G N' lam' a' w' (base_ok hn h1.fr hp o) Q fun a'' w'' hA' => hQ _ _ (hA'.trans ex s sz)
    · exact .inr ⟨e1, env1, lo1, c1, h1, fun k => ((e k).trans (h2 _)).trans (gt_ne he k _ env1 lo1 c1)⟩

theorem den_ok (hF : Facts P) (hm : P.follows .mixedOrders = true) {I : FI} (hfns : FnsOK P I.fns) : ∀ an : An, (an.okB false = true → Good P I an) ∧ (an.okB true = true → GoodIn P I an) := by
  intro an
  induction an with
  | dead => exact ⟨fun _ x env lo c _ => .inl fun k => by cases x <;> rfl, fun _ x env lo c _ => .inl fun k => by cases x <;> rfl⟩
  | skip =>
    have h : Good P I .skip := fun x env lo c hn => by
      cases x <;> first | exact .inl fun k => rfl | skip
      · exact .inr ⟨.nm, env, lo, c, Snd.here hn fun Q a w h => wp_skip h, fun k => rfl⟩
      · exact .inr ⟨.nm, env, lo, c, Snd.here hn fun Q a w h => wp_label h, fun k => rfl⟩
    exact ⟨fun _ => h, fun _ => h.inn⟩
  | reg =>
    have h : Good P I .reg := fun x env lo c hn => by
      cases x <;> first | exact .inl fun k => rfl | skip
      next id ops b =>
      cases b
      · exact reg_ok hF hfns hn
      · exact .inl fun k => rfl
    exact ⟨fun _ => h, fun _ => h.inn⟩
  | drw pi =>
    have h : Good P I (.drw pi) := fun x env lo c hn => by
      cases x <;> first | exact .inl fun k => rfl | skip
      next id ops b =>
      cases b
      · exact .inl fun k => rfl
      · exact drw_ok hF hm hfns hn
    exact ⟨fun _ => h, fun _ => h.inn⟩
  | ret =>
    have h : Good P I .ret := fun x env lo c hn => by
      cases x <;> first | exact .inl fun k => rfl | skip
      exact .inr ⟨.rt, env, lo, c, Snd.here hn fun Q a w h => wp_ret h, fun k => rfl⟩
    exact ⟨fun _ => h, fun _ => h.inn⟩
  | ex =>
    have h : Good P I .ex := fun x env lo c hn => by
      cases x <;> first | exact .inl fun k => rfl | skip
      exact .inr ⟨.ex _, env, lo, c, Snd.here hn fun Q a w h => wp_exit h, fun k => rfl⟩
    exact ⟨fun _ => h, fun _ => h.inn⟩
  | go =>
    have h : Good P I .go := fun x env lo c hn => by
      cases x <;> first | exact .inl fun k => rfl | skip
      exact .inr ⟨.gt _, env, lo, c, Snd.here hn fun Q a w h => wp_goto h, fun k => rfl⟩
    exact ⟨fun _ => h, fun _ => h.inn⟩
  | sq a b iha ihb =>
    have h : An.okB (.sq a b) false = true → Good P I (.sq a b) := fun h => by
      simp only [An.okB, Bool.and_eq_true] at h
      exact sq_ok (iha.1 h.1) (ihb.1 h.2)
    exact ⟨h, fun h' => (h h').inn⟩
  | sj ps a b iha ihb =>
    have h : An.okB (.sj ps a b) false = true → Good P I (.sj ps a b) := fun h => by
      simp only [An.okB, Bool.and_eq_true] at h
      exact sj_ok (iha.1 h.1) (ihb.1 h.2)
    exact ⟨h, fun h' => (h h').inn⟩
  | cd a b iha ihb =>
    have h : An.okB (.cd a b) false = true → Good P I (.cd a b) := fun h => by
      simp only [An.okB, Bool.and_eq_true] at h
      exact cd_ok (iha.1 h.1) (ihb.1 h.2)
    exact ⟨h, fun h' => (h h').inn⟩
  | bl a iha => exact ⟨fun h => bl_ok (iha.1 h), fun h => (bl_ok (iha.1 h)).inn⟩
  | lp ps fuel a iha => exact ⟨fun h => lp_ok (iha.1 h), fun h => (lp_ok (iha.1 h)).inn⟩
  | sc a iha => exact ⟨fun h => sc_ok (iha.2 h), fun h => (sc_ok (iha.2 h)).inn⟩
  | lb l ps fuel r a ihr iha =>
    refine ⟨fun h => by simp [An.okB] at h, fun h => ?_⟩
    simp only [An.okB, Bool.and_eq_true] at h
    exact lb_ok (ihr.1 h.1.2) (iha.2 h.2)
  | mn a iha =>
    have h : An.okB (.mn a) false = true → Good P I (.mn a) := fun h x env lo c hn => by
      have e : ∀ k, den I (.mn a) x env lo c k = den I a x env lo c k := fun k => by cases x <;> rfl
      have := iha.1 h x env lo c hn
      rcases this with h | ⟨e1, env1, lo1, c1, h1, h2⟩
      · exact .inl fun k => (e k).trans (h k)
      · exact .inr ⟨e1, env1, lo1, c1, h1, fun k => (e k).trans (h2 k)⟩
    exact ⟨h, fun h' => (h h').inn⟩
end Go.Proofs.YtaekfgbfpfecdaaGreat.VM

/- Functions whole; no conditions but those that each theorem names. -/
namespace Go.Proofs.YtaekfgbfpfecdaaGreat.VM
open Go
set_option linter.unusedVariables false
set_option linter.unusedSimpArgs false
variable {P : Program}
instance dfNil : Df := ⟨[]⟩

theorem chkAll_def : ∀ L : List (Option Bool × Bool × Nat), (∀ k, chkAll L k = false) ∨ ((∀ k, chkAll L k = k (L.map (·.2))) ∧ ∀ x ∈ L, ∀ b, x.1 = some b → b = true)
  | [] => .inr ⟨fun k => rfl, fun x h => by cases h⟩
  | (chk, fl, n) :: l => by
    rcases chk_cases chk with hc | hc
    · rcases chkAll_def l with h | ⟨h1, h2⟩
      · exact .inl fun k => (chkK_true hc).trans (h _)
      · refine .inr ⟨fun k => (chkK_true hc).trans (h1 _), fun x hx b hb => ?_⟩
        rcases List.mem_cons.1 hx with rfl | hx
        · exact hc b hb
        · exact h2 x hx b hb
    · exact .inl fun k => chkK_false hc
def resF (tmps : Array Value) : ResultVar → Sem Value
  | .tmp t => pure (tmps.getD t undef)
  | .cell a t => do loadVar t (← asAddr (tmps.getD a undef))
theorem cell_run {t : TypeId} {u v : Value} {w : World} (h : (Instr.loadAt t u).run P w = .ok v w) : (do loadVar t (← asAddr u) : Sem Value).run P w = .ok v w := by
  unfold Instr.loadAt at h
  cases u with
  | pointer a =>
    cases a with
    | some a => simpa [asAddr, Instr.sureAddr] using h
    | none => simp [Instr.sureAddr, stuck] at h
  | _ => simp [Instr.sureAddr, stuck] at h
theorem res_run (hF : Facts P) {nt : Nat} {G : Nat → Prop} {N : Nm} {lam : Nat → Nat} {env : Env} {lo : Lo} {c : Core} {a : Act} {w : World} (hok : OK nt G N lam env lo c a w) : ∀ {vs : List ResultVar} {ss : List Sh} {L : List (Option Bool × Bool × Nat)}, resNs env lo c vs ss = some L → (∀ x ∈ L, ∀ b, x.1 = some b → b = true) →
    ∃ us : List Value, (vs.mapM (resF a.tmps)).run P w = .ok us w ∧ RShs N ss (L.map fun x => x.2.2) us
  | [], [], L, h, _ => by
    cases h
    exact ⟨[], by simp, trivial⟩
  | [], _ :: _, L, h, _ => by simp [resNs] at h
  | .tmp t :: vs, [], L, h, _ => by simp [resNs] at h
  | .cell t ty' :: vs, [], L, h, _ => by simp [resNs] at h
  | .tmp t :: vs, s :: ss, L, h, hc => by
    simp only [resNs] at h
    split at h
    · next e he =>
      split at h
      · next fl n hn =>
        split at h
        · next r hr =>
          cases h
          obtain ⟨us, h1, h2⟩ := res_run hF hok hr fun x hx => hc x (List.mem_cons_of_mem _ hx)
          refine ⟨a.eval (.tmp t) :: us, ?_, ⟨toN_ok hn (evO_ok hok.pools hok.re he), h2⟩⟩
          simp [List.mapM_cons, resF, h1, Act.eval]
        · cases h
      · cases h
    · cases h
  | .cell t ty' :: vs, s :: ss, L, h, hc => by
    simp only [resNs] at h
    split at h
    · next e he =>
      split at h
      · next chk e' hl =>
        split at h
        · next fl n hn =>
          split at h
          · next r hr =>
            cases h
            obtain ⟨us, h1, h2⟩ := res_run hF hok hr fun x hx => hc x (List.mem_cons_of_mem _ hx)
            obtain ⟨v, h3, h4⟩ := semLoad_ok (P := P) hF hok.rel hok.re (evO_ok hok.pools hok.re he) hl (hc _ List.mem_cons_self)
            have h5 := cell_run h3
            refine ⟨v :: us, ?_, ⟨toN_ok hn h4, h2⟩⟩
            have h6 : (resF a.tmps (.cell t ty')).run P w = .ok v w := h5
            simp [List.mapM_cons, h6, h1]
          · cases h
        · cases h
      · cases h
    · cases h
theorem results_eq (fn : Func) (tmps : Array Value) : results fn tmps = (do let vs ← fn.results.toList.mapM (resF tmps); pure (if h : vs.toArray.size = 1 then vs.toArray[0] else .tuple vs.toArray)) := by
  have key : ∀ (f g : ResultVar → Sem Value), (∀ x, f x = g x) → (do let vs ← fn.results.mapM f; pure (if h : vs.size = 1 then vs[0] else .tuple vs) : Sem Value) = (do let vs ← fn.results.mapM g; pure (if h : vs.size = 1 then vs[0] else .tuple vs)) := by
    intro f g h
    rw [funext h]
  unfold results
  refine (key _ (resF tmps) (fun x => by cases x <;> rfl)).trans ?_
  rw [Array.mapM_eq_mapM_toList]
  simp
theorem results_run (hF : Facts P) {fn : Func} {nt : Nat} {G : Nat → Prop} {N : Nm} {lam : Nat → Nat} {env : Env} {lo : Lo} {c : Core} {a : Act} {w : World} (hok : OK nt G N lam env lo c a w) {ss : List Sh} {L : List (Option Bool × Bool × Nat)} (h : resNs env lo c fn.results.toList ss = some L) (hc : ∀ x ∈ L, ∀ b, x.1 = some b → b = true) :
    ∃ v, (results fn a.tmps).run P w = .ok v w ∧ RRes N ss (L.map fun x => x.2.2) v := by
  obtain ⟨us, h1, h2⟩ := res_run hF hok h hc
  have hl := h2.len
  rw [results_eq, Sem.run_bind, h1]
  simp only [Result.andThen_ok, Sem.run_pure]
  refine ⟨_, rfl, ?_⟩
  by_cases h3 : us.toArray.size = 1
  · rw [dif_pos h3]
    have h4 : us.length = 1 := h3
    cases us with
    | nil => cases h4
    | cons u us =>
      cases us with
      | cons _ _ => cases h4
      | nil =>
        refine .inl ?_
        revert h2 hl
        generalize (L.map fun x => x.2.2) = xs
        intro h2 hl
        cases ss with
        | nil => cases hl.2
        | cons s ss =>
          cases xs with
          | nil => cases hl.1
          | cons x xs =>
            cases ss with
            | cons _ _ => cases hl.2
            | nil =>
              cases xs with
              | cons _ _ => cases hl.1
              | nil => exact ⟨s, x, rfl, rfl, h2.1⟩
  · rw [dif_neg h3]
    refine .inr ⟨fun e => h3 ?_, us.toArray, rfl, h2⟩
    have : us.toArray.size = us.length := rfl
    rw [this, hl.2, e]

theorem argEnv_get {N : Nm} : ∀ {ss : List Sh} {xs : List Nat} {vs : List Value} {i0 i : Nat} {e : Ent}, RShs N ss xs vs → getA (argEnv ss xs i0) i = some e → ∃ j s x v, i = i0 + j ∧ vs[j]? = some v ∧ RSh N s x v ∧ e = entSh s x
  | [], [], [], i0, i, e, _, h => by cases h
  | s :: ss, x :: xs, v :: vs, i0, i, e, hr, h => by
    simp only [argEnv, getA_cons] at h
    split at h
    · next hi =>
      cases h
      exact ⟨0, s, x, v, hi.symm, rfl, hr.1, rfl⟩
    · obtain ⟨j, s', x', v', h1, h2, h3, h4⟩ := argEnv_get hr.2 h
      exact ⟨j + 1, s', x', v', by omega, by simpa using h2, h3, h4⟩
  | [], [], _ :: _, _, _, _, h, _ => h.elim
  | [], _ :: _, _, _, _, _, h, _ => h.elim
  | _ :: _, [], _, _, _, _, h, _ => h.elim
  | _ :: _, _ :: _, [], _, _, _, h, _ => h.elim
theorem argEnv_noGd : ∀ (ss : List Sh) (xs : List Nat) (i0 : Nat), NoGd (argEnv ss xs i0)
  | [], xs, i0 => by intro i s w b e h; cases h
  | s :: ss, [], i0 => by intro i s w b e h; cases h
  | s :: ss, x :: xs, i0 => by
    intro i s' w b e h
    simp only [argEnv, getA_cons] at h
    split at h
    · injection h with h
      exact entSh_noG _ _ _ _ _ _ h
    · exact argEnv_noGd ss xs _ _ _ _ _ _ h
theorem callFunc_enter {g : FuncId} {fn : Func} {code : Code} (hf : P.funcs[g]? = some fn) (hb : fn.body = some code) (hn : (fn.name == "runtime.NumGoroutine") = false) (args : Array Value) (w : World) : (callFunc g args).run P w = .ok (.enter g args) w := by
  have hn' : fn.name ≠ "runtime.NumGoroutine" := fun e => by simp [e] at hn
  simp [callFunc, go_sem, hf, hb, hn']
theorem start_ok {N : Nm} {c : Core} {w : World} {G : Nat → Prop} (hR : Rel N c w) (hp : Pools N) (hO : Off G N) (hI : In G w) {ss : List Sh} {xs : List Nat} {vs : List Value} (hr : RShs N ss xs vs) {nt : Nat} (hnt : ss.length ≤ nt) (lam : Nat → Nat) :
    OK nt G N lam (argEnv ss xs 0) [] c { tmps := vs.toArray ++ Array.replicate (nt - vs.toArray.size) undef, defers := [] } w := by
  have hl := hr.len
  have hvs : vs.toArray.size = vs.length := rfl
  refine ⟨⟨fun i e hi => ?_, fun i s wt gb e hi => absurd hi (argEnv_noGd _ _ _ _ _ _ _ _), fun i l x hi => (by cases hi), fun i q p hi => (by cases hi), fun i e hi => (by cases hi), fun i j e e' hi => (by cases hi)⟩, hR, hp, hO, hI, fun i e hi => (by cases hi), ?_, rfl⟩
  · obtain ⟨j, s, x, v, h1, h2, h3, rfl⟩ := argEnv_get hr hi
    have hj : j < vs.length := (List.getElem?_eq_some_iff.1 h2).1
    refine ⟨v, ?_, entSh_ok h3⟩
    rw [Nat.zero_add] at h1
    subst h1
    simp only
    rw [Array.getElem?_append_left (by rw [hvs]; exact hj)]
    simpa using h2
  · simp only [Array.size_append, Array.size_replicate, hvs]
    omega

/-- A function, from the run of its code. -/
theorem denF_ok (hF : Facts P) (hm : P.follows .mixedOrders = true) {I : FI} (hfns : FnsOK P I.fns) {g : FuncId} {fn : Func} {code : Code} (hf : P.funcs[g]? = some fn) (hb : fn.body = some code) (hn : (fn.name == "runtime.NumGoroutine") = false) (hnt : fn.ntmps = I.nt)
    {an : An} (han : an.okB false = true) {ps rs : List Sh} (hps : ps.length ≤ I.nt) {vars : List ResultVar} (hvars : fn.results.toList = vars) {F : List Nat → Core → (List Nat → Core → Bool) → Bool} (hden : denF I an code vars ps rs = F) : FunOK P g ⟨ps, rs, F⟩ := by
  subst hden hvars
  intro l c hlen
  simp only at hlen
  have e : ∀ k, denF I an code fn.results.toList ps rs l c k = den I an code (argEnv ps l 0) [] c (fun e env lo c => match e with
    | .nm => match resNs env lo c fn.results.toList rs with
      | some l => chkAll l (fun l => forceAll l (fun xs => k xs c))
      | none => false
    | .rt => match resNs env lo c fn.results.toList rs with
      | some l => chkAll l (fun l => forceAll l (fun xs => k xs c))
      | none => false
    | _ => false) := fun k => rfl
  rcases (den_ok hF hm hfns an).1 han code (argEnv ps l 0) [] c (argEnv_noGd _ _ _) with h | ⟨e1, env1, lo1, c1, h1, h2⟩
  · exact .inl fun k => (e k).trans (h _)
  · have e' := fun k => (e k).trans (h2 _)
    have fin : (e1 = .nm ∨ e1 = .rt) → (∀ k, denF I an code fn.results.toList ps rs l c k = (match resNs env1 lo1 c1 fn.results.toList rs with
      | some l => chkAll l (fun l => forceAll l (fun xs => k xs c1))
      | none => false)) → (∀ k, denF I an code fn.results.toList ps rs l c k = false) ∨ ∃ xs c', (∀ k, denF I an code fn.results.toList ps rs l c k = k xs c') ∧ xs.length = rs.length ∧
    ∀ G N w vs, Rel N c w → Pools N → Off G N → In G w → RShs N ps l vs → CallTo P g vs.toArray w (Post G N w rs xs c') := by
      intro he e2
      cases hr : resNs env1 lo1 c1 fn.results.toList rs with
      | none => exact .inl fun k => by rw [e2, hr]
      | some L =>
        simp only [hr] at e2
        rcases chkAll_def L with h | ⟨h3, h4⟩
        · exact .inl fun k => (e2 k).trans (h _)
        · have e3 : ∀ k, denF I an code fn.results.toList ps rs l c k = k (L.map fun x => x.2.2) c1 := fun k => by
            rw [e2, h3, forceAll_eq, List.map_map]
            rfl
          refine .inr ⟨L.map fun x => x.2.2, c1, e3, ?_, ?_⟩
          · have : ∀ {vs : List ResultVar} {ss : List Sh} {L : List (Option Bool × Bool × Nat)}, resNs env1 lo1 c1 vs ss = some L → L.length = ss.length := by
              intro vs
              induction vs with
              | nil => intro ss L h; cases ss <;> simp [resNs] at h; subst h; rfl
              | cons v vs ih =>
                intro ss L h
                cases v <;> cases ss <;> simp only [resNs] at h <;> first | (cases h; done) | skip
                · split at h
                  · split at h
                    · split at h
                      · next r hr => cases h; simp [ih hr]
                      · cases h
                    · cases h
                  · cases h
                · split at h
                  · split at h
                    · split at h
                      · split at h
                        · next r hr => cases h; simp [ih hr]
                        · cases h
                      · cases h
                    · cases h
                  · cases h
            rw [List.length_map]
            exact this hr
          · intro G N w vs hR hp hO hI hvs
            have hlv := hvs.len
            unfold CallTo
            rw [callFunc_enter hf hb hn]
            simp only
            refine calls_of_wp hf hb ?_
            rw [hnt]
            refine h1.run G N (fun _ => 0) _ w (start_ok hR hp hO hI hvs hps _) _ fun a' w' hA => ?_
            obtain ⟨N', lam', ex, hok, hs, hz⟩ := hA
            obtain ⟨v, h5, h6⟩ := results_run hF hok hr h4
            have hpost : Post G N w rs (L.map fun x => x.2.2) c1 v w' := ⟨N', ex, hok.rel, hok.off, hs, hz, h6⟩
            rcases he with rfl | rfl
            · exact ⟨hok.df, v, h5, hpost⟩
            · exact ⟨hok.df, v, h5, hpost⟩
    cases e1 with
    | nm => exact fin (.inl rfl) e'
    | rt => exact fin (.inr rfl) e'
    | ex i => exact .inl e'
    | gt i => exact .inl e'
end Go.Proofs.YtaekfgbfpfecdaaGreat.VM

/- The machine once more, so that it is quickly unfolded; it is the machine; no conditions. -/
namespace Go.Proofs.YtaekfgbfpfecdaaGreat.VM.R
open Go
set_option linter.unusedVariables false
def hi0 (u : Unit) : Unit := u
def hi1 (u : Unit) : Unit := hi0 u
def hi2 (u : Unit) : Unit := hi1 u
def hi3 (u : Unit) : Unit := hi2 u
def hi4 (u : Unit) : Unit := hi3 u
def hi5 (u : Unit) : Unit := hi4 u
def hi6 (u : Unit) : Unit := hi5 u
def hi7 (u : Unit) : Unit := hi6 u
def hi8 (u : Unit) : Unit := hi7 u
def hi9 (u : Unit) : Unit := hi8 u
def hi10 (u : Unit) : Unit := hi9 u
def hi11 (u : Unit) : Unit := hi10 u
def hi12 (u : Unit) : Unit := hi11 u
def hi13 (u : Unit) : Unit := hi12 u
def hi14 (u : Unit) : Unit := hi13 u
def hi15 (u : Unit) : Unit := hi14 u
def hi16 (u : Unit) : Unit := hi15 u
def hi17 (u : Unit) : Unit := hi16 u
def hi18 (u : Unit) : Unit := hi17 u
def hi19 (u : Unit) : Unit := hi18 u
def hi20 (u : Unit) : Unit := hi19 u
def hi21 (u : Unit) : Unit := hi20 u
def hi22 (u : Unit) : Unit := hi21 u
def hi23 (u : Unit) : Unit := hi22 u
def hi24 (u : Unit) : Unit := hi23 u
def hi25 (u : Unit) : Unit := hi24 u
def hi26 (u : Unit) : Unit := hi25 u
def hi27 (u : Unit) : Unit := hi26 u
def hi28 (u : Unit) : Unit := hi27 u
def hi29 (u : Unit) : Unit := hi28 u
def hi30 (u : Unit) : Unit := hi29 u
def hi31 (u : Unit) : Unit := hi30 u
def hi32 (u : Unit) : Unit := hi31 u
def hi33 (u : Unit) : Unit := hi32 u
def hi34 (u : Unit) : Unit := hi33 u
def hi35 (u : Unit) : Unit := hi34 u
def hi36 (u : Unit) : Unit := hi35 u
def hi37 (u : Unit) : Unit := hi36 u
def hi38 (u : Unit) : Unit := hi37 u
def hi39 (u : Unit) : Unit := hi38 u
def hi40 (u : Unit) : Unit := hi39 u
def hi41 (u : Unit) : Unit := hi40 u
def hi42 (u : Unit) : Unit := hi41 u
def hi43 (u : Unit) : Unit := hi42 u
def hi44 (u : Unit) : Unit := hi43 u
def hi45 (u : Unit) : Unit := hi44 u
def hi46 (u : Unit) : Unit := hi45 u
def hi47 (u : Unit) : Unit := hi46 u
def hi48 (u : Unit) : Unit := hi47 u
def hi49 (u : Unit) : Unit := hi48 u
def hi50 (u : Unit) : Unit := hi49 u
def hi51 (u : Unit) : Unit := hi50 u
def hi52 (u : Unit) : Unit := hi51 u
def hi53 (u : Unit) : Unit := hi52 u
def hi54 (u : Unit) : Unit := hi53 u
def hi55 (u : Unit) : Unit := hi54 u
def hi56 (u : Unit) : Unit := hi55 u
def hi57 (u : Unit) : Unit := hi56 u
def hi58 (u : Unit) : Unit := hi57 u
def hi59 (u : Unit) : Unit := hi58 u
def hi60 (u : Unit) : Unit := hi59 u
def hi61 (u : Unit) : Unit := hi60 u
def hi62 (u : Unit) : Unit := hi61 u
def hi63 (u : Unit) : Unit := hi62 u
def hi64 (u : Unit) : Unit := hi63 u
def hi65 (u : Unit) : Unit := hi64 u
def hi66 (u : Unit) : Unit := hi65 u
def hi67 (u : Unit) : Unit := hi66 u
def hi68 (u : Unit) : Unit := hi67 u
def hi69 (u : Unit) : Unit := hi68 u
noncomputable def stat {α : Type} (b : Bool) (x y : α) : α := (fun _ => @Bool.rec (fun _ => α) y x b) (hi69 ())
noncomputable def ifB {α : Type} (b : Bool) (x y : α) : α := @Bool.rec (fun _ => α) y x b
noncomputable def okB (b x : Bool) : Bool := @Bool.rec (fun _ => Bool) false x b
def getO (o : Option Nat) (d : Nat) : Nat := (fun _ => match o with | some x => x | none => d) (hi69 ())
noncomputable section
def b2n (b : Bool) : Nat := ifB b 1 0
def notB (b : Bool) : Bool := ifB b false true
def eqB (a b : Bool) : Bool := ifB a b (notB b)
def unlock (s : Nat) (want : Bool) : Env → Env
  | [] => []
  | (a, some (.g j w gb e)) :: l => (a, some (cond (Nat.beq j s && eqB w want) e (.g j w gb e))) :: unlock s want l
  | x :: l => x :: unlock s want l
def toN (s : Sh) (e : Ent) : Option (Bool × Nat) :=
  match e with
  | .n a fl x => cond (fitSh a s) (some (fl, x)) none
  | .b x => match s with | .one .bool => some (false, b2n x) | _ => none
  | .c i => match s with | .one (.cst j) => cond (Nat.beq i j) (some (true, 0)) none | _ => none
  | .z i => match s with
    | .ptr _ _ false => cond (Nat.beq i 0) (some (true, 0)) none
    | .sli _ => cond (Nat.beq i 1) (some (true, 0)) none
    | .one .fn => cond (Nat.beq i 2) (some (true, 0)) none
    | _ => none
  | _ => none
def toLay (l : List K) (agg : Bool) (e : Ent) : Option Nat :=
  match agg with
  | true => match e with
    | .n (.agg l') _ x => cond (fitKs l' l) (some x) none
    | _ => none
  | false => match l with
    | [k] => match e with
      | .n a _ x => cond (fitShK a k) (some x) none
      | .b x => match k with | .bool => some (b2n x) | _ => none
      | .c i => match k with | .cst j => cond (Nat.beq i j) (some 0) none | _ => none
      | .z i => match k with
        | .ptr _ => cond (Nat.beq i 0) (some 0) none
        | .sli _ => cond (Nat.beq i 1) (some 0) none
        | .fn => cond (Nat.beq i 2) (some 0) none
        | _ => none
      | _ => none
    | _ => none
def ptrChk (d : Nat) (mo nn : Bool) (x n : Nat) : Option Bool :=
  match mo, nn with
  | false, true => none
  | false, false => some (notB (Nat.beq x 0))
  | true, true => some (Nat.beq (deadBits d x n) 0)
  | true, false => some (ifB (Nat.beq x 0) false (Nat.beq (deadBits d x n) 0))
def andC (a : Option Bool) (b : Option Bool) : Option Bool :=
  match a, b with
  | none, b => b
  | a, none => a
  | some x, some y => some (ifB x y false)
def partOf (l : List K) (x o n : Nat) : Nat :=
  stat (Nat.beq o 0 && Nat.beq n (lenK l)) x (rd x (Nat.shiftLeft o 6) n)
def semLoad (t : Nat) (e : Ent) (lo : Lo) (c : Core) : Sem1 :=
  match ty t with
  | ⟨d, n⟩ => match e with
    | .n (.ptr l mo nn) _ x =>
      cond (Nat.beq n (lenK l) && Nat.blt 0 n)
        (match entLay d.isRow l false (rd c.m x n) with
        | some r => some (ptrChk c.d mo nn x n, r)
        | none => none) none
    | .lp i l o =>
      cond (Nat.beq n (lenK l) && Nat.blt 0 n)
        (match locOf lo i with
        | some (L, y) => cond (beqKs l (takeK n (dropK o L)))
          (match entLay d.isRow l false (partOf L y o n) with
          | some r => some (none, r)
          | none => none) none
        | none => none) none
    | _ => none
def addN (x o : Nat) : Nat := stat (Nat.beq o 0) x (Nat.add x (Nat.shiftLeft o 6))
def semFieldAddr (t : Nat) (e : Ent) (f : Nat) : Sem1 :=
  match ty t with
  | ⟨.st fs, n⟩ => match nthF f fs with
    | none => none
    | some (o, z) => match e with
      | .n (.ptr l mo nn) fl x => cond (Nat.ble (Nat.add o z) (lenK l) && Nat.blt 0 z)
          (some (cond nn none (some (notB (Nat.beq x 0))), .n (.ptr (takeK z (dropK o l)) mo true) (cond (Nat.beq o 0) fl false) (addN x o))) none
      | .lp i l o' => cond (Nat.ble (Nat.add o z) (lenK l) && Nat.blt 0 z) (some (none, .lp i (takeK z (dropK o l)) (Nat.add o' o))) none
      | _ => none
  | _ => none
def semIndexAddr (t : Nat) (e ix : Ent) : Sem1 :=
  match ty t, idxOf ix with
  | ⟨.sli el, _⟩, some i => match e with
    | .n (.sli l) _ x =>
      cond (Nat.beq (ty el).size (lenK l) && Nat.blt 0 (lenK l))
        (some (some (Nat.blt i (sln x)), .n (.ptr l true true) false (Nat.add (slp x) (Nat.mul i (Nat.shiftLeft (lenK l) 6))))) none
    | _ => none
  | ⟨.arr len el, _⟩, some i => match e with
    | .n (.ptr L mo nn) _ x =>
      let z := (ty el).size
      cond (Nat.blt 0 z && Nat.beq (lenK L) (Nat.mul len z) && beqKs L (repK len (takeK z L)))
        (some (andC (cond nn none (some (notB (Nat.beq x 0)))) (some (Nat.blt i len)), .n (.ptr (takeK z L) mo true) false (Nat.add x (Nat.mul i (Nat.shiftLeft z 6))))) none
    | _ => none
  | _, _ => none
def bnds (lo hi : Option Nat) (len cap : Nat) : Option Bool :=
  match lo, hi with
  | none, none => none
  | some l, none => some (Nat.ble l len)
  | none, some h => some (Nat.ble h cap)
  | some l, some h => some (ifB (Nat.ble l h) (Nat.ble h cap) false)
def semSlice (t : Nat) (e : Ent) (lo hi mx : Option Nat) : Sem1 :=
  match ty t with
  | ⟨.str, _⟩ => match e, mx with
    | .n (.one .str) _ x, none =>
      some (bnds lo hi (strLen x) (strLen x), .n (.one .str) false
        (Nat.add (Nat.shiftLeft (addOpt (strAt x) 8 lo) 16) (lenOpt (strLen x) lo hi)))
    | _, _ => none
  | ⟨.sli el, _⟩ => match e with
    | .n (.sli l) _ x =>
      cond (Nat.beq (ty el).size (lenK l) && Nat.blt 0 (lenK l))
      (let h := getO hi (sln x)
       let a := getO lo 0
       let p := addOpt (slp x) (Nat.shiftLeft (lenK l) 6) lo
       match mx with
       | some m => cond hi.isSome (some (some (ifB (Nat.ble a h) (ifB (Nat.ble h m) (Nat.ble m (scp x)) false) false),
           .n (.sli l) false (ifB (Nat.beq (slp x) 0) x (slmk p (Nat.sub h a) (Nat.sub m a) 1)))) none
       | none => some (some (ifB (Nat.ble a h) (Nat.ble h (scp x)) false),
           .n (.sli l) false (ifB (Nat.beq (slp x) 0) x (ifB (Nat.beq (Nat.add (Nat.sub (scp x) a) (sex x)) 0) 9223372036854775808 (slmk p (Nat.sub h a) (Nat.sub (scp x) a) (sex x)))))) none
    | _ => none
  | ⟨.arr len el, _⟩ => match e, mx with
    | .n (.ptr L mo nn) _ x, none =>
      let z := (ty el).size
      let h := getO hi len
      let a := getO lo 0
      cond (Nat.blt 0 z && Nat.blt len 131072 && Nat.blt (Nat.mul len z) 2097152 && Nat.beq (lenK L) (Nat.mul len z) && beqKs L (repK len (takeK z L)) && !mo)
        (some (andC (cond nn none (some (notB (Nat.beq x 0)))) (some (ifB (Nat.ble a h) (ifB (Nat.ble h len) (Nat.blt x 134217728) false) false)),
          .n (.sli (takeK z L)) false (slmk (Nat.add x (Nat.mul a (Nat.shiftLeft z 6))) (Nat.sub h a) (Nat.sub len a) 1))) none
    | _, _ => none
  | _ => none
def semNil (e : Ent) : Sem1 :=
  match e with
  | .n (.ptr l mo nn) fl x => some (cond nn none (some (notB (Nat.beq x 0))), .n (.ptr l mo true) fl x)
  | .lp i l o => some (none, e)
  | .n (.one .fn) fl x => some (some (notB (Nat.beq x 0)), e)
  | _ => none
def semUn (op : UnOp) (e : Ent) : Sem1 :=
  match op, asB e with
  | .not, some x => some (none, .b (notB x))
  | _, _ => none
def convN (k k' : IntKind) (x : Nat) : Nat := stat (Nat.ble (limK k) (limK k')) x (Nat.mod x (limK k'))
def semConv (src dst : Nat) (e : Ent) : Sem1 :=
  cond (Nat.blt 0 (ty src).size) (match ty dst, e with
  | ⟨.int k', _⟩, .n (.one (.int k)) fl x =>
    cond (convOk k && convOk k') (some (none, .n (.one (.int k')) (cond (Nat.ble (limK k) (limK k')) fl false) (convN k k' x))) none
  | ⟨.int .u64, _⟩, .c 2 => some (none, .n (.one (.int .u64)) true 1000000)
  | ⟨.flo, _⟩, .n (.one (.int .u64)) _ x => some (some (Nat.beq x 1000000), .c 2)
  | _, _ => none) none
def partsN (place : Nat → Option (Nat × Nat × Bool)) (l : List K) (env : Env) : List (Nat × Operand) → Nat → Nat → Option Nat
  | [], _, acc => some acc
  | (i, x) :: r, fm, acc =>
    match place i, evO env x with
    | some (o, z, agg), some e =>
      cond (Nat.beq (Nat.land fm (Nat.shiftLeft (Nat.sub (Nat.shiftLeft 1 z) 1) o)) 0 && Nat.ble (Nat.add o z) (lenK l) && Nat.blt 0 z)
        (match toLay (takeK z (dropK o l)) agg e with
        | some y => partsN place l env r (Nat.lor fm (Nat.shiftLeft (Nat.sub (Nat.shiftLeft 1 z) 1) o)) (stat (Nat.beq fm 0 && Nat.beq o 0) y (cat acc o y))
        | none => none) none
    | _, _ => none
def semBuild (t : Nat) (ps : List (Nat × Operand)) (env : Env) : Sem1 :=
  cond (zeroOk t)
  (match ty t with
  | ⟨.st fs, n⟩ => cond (Nat.beq n (lenK (lay t)))
    (match partsN (placeSt t fs) (lay t) env ps 0 0 with
    | some x => some (none, .n (.agg (lay t)) false x)
    | none => none) none
  | ⟨.arr len el, n⟩ => cond (Nat.beq n (lenK (lay t)) && Nat.blt 0 (ty el).size)
    (match partsN (placeArr len el) (lay t) env ps 0 0 with
    | some x => some (none, .n (.agg (lay t)) false x)
    | none => none) none
  | _ => none) none
def semInt (op : BinOp) (k : IntKind) (x y : Nat) : Sem1 :=
  match op with
  | .eql => some (none, .b (Nat.beq x y))
  | .neq => some (none, .b (notB (Nat.beq x y)))
  | .lss => some (none, .b (intLt k x y))
  | .gtr => some (none, .b (intLt k y x))
  | .leq => some (none, .b (notB (intLt k y x)))
  | .geq => some (none, .b (notB (intLt k x y)))
  | .add => cond (convOk k) (some (none, .n (.one (.int k)) false (Nat.mod (Nat.add x y) (limK k)))) none
  | .sub => cond (convOk k) (some (none, .n (.one (.int k)) false (Nat.mod (Nat.sub (Nat.add x (limK k)) y) (limK k)))) none
  | .mul => cond (convOk k) (some (none, .n (.one (.int k)) false (Nat.mod (Nat.mul x y) (limK k)))) none
  | .quo => match k with
    | .u64 => some (some (Nat.blt 0 y), .n (.one (.int .u64)) false (Nat.div x y))
    | _ => none
  | .rem => match k with
    | .u64 | .u8 => some (some (Nat.blt 0 y), .n (.one (.int k)) false (Nat.mod x y))
    | .i64 => some (some (ifB (Nat.blt x 9223372036854775808) (ifB (Nat.blt y 9223372036854775808) (Nat.blt 0 y) false) false), .n (.one (.int .i64)) false (Nat.mod x y))
    | _ => none
  | .or => match k with
    | .u64 => some (none, .n (.one (.int .u64)) false (Nat.lor x y))
    | _ => none
  | _ => none
def eqEnt (op : BinOp) (b : Bool) : Sem1 :=
  match op with
  | .eql => some (none, .b b)
  | .neq => some (none, .b (notB b))
  | _ => none
def semBin (op : BinOp) (t : Nat) (ex ey : Ent) (c : Core) : Sem1 :=
  match ex, ey with
  | .n (.one (.int k)) _ x, .n (.one (.int k')) _ y =>
    cond (isShift op) (semShift op k x y) (cond (Nat.beq (kidx k) (kidx k')) (semInt op k x y) none)
  | .n (.one .opq) _ _, .n (.one (.int .u64)) _ _ => match op with
    | .add => some (none, .n (.one .opq) true 0)
    | _ => none
  | .n (.one .str) _ x, .n (.one .str) _ y => eqEnt op (Nat.beq (strS c.s x) (strS c.s y))
  | .n (.ptr _ _ _) _ x, .z 0 => match (ty t).desc with
    | .ptr _ => eqEnt op (Nat.beq x 0)
    | _ => none
  | .lp _ _ _, .z 0 => match (ty t).desc with
    | .ptr _ => eqEnt op false
    | _ => none
  | .n (.sli _) _ x, .z 1 => match (ty t).desc with
    | .sli _ => eqEnt op (Nat.beq x 0)
    | _ => none
  | .n (.one .fn) _ x, .z 2 => match (ty t).desc with
    | .fn => eqEnt op (Nat.beq x 0)
    | _ => none
  | .n (.agg l) _ x, .n (.agg l') _ y => match eqTy t with
    | some m => cond (beqKs l m && beqKs l' m) (eqEnt op (Nat.beq x y)) none
    | none => none
  | .c i, .c j => match cBin op i j with
    | some r => some (none, r)
    | none => none
  | ex, ey => match (ty t).desc, asB ex, asB ey with
    | .bool, some x, some y => eqEnt op (ifB x y (notB y))
    | _, _, _ => none
def semPick (cond_ : Bool) (a b : Option Ent) : Sem1 :=
  match a, b with
  | some (.g _ _ ga ea), some eb => match asB ea, asB eb with
    | some x, some y => some (some (ifB cond_ ga true), .b (ifB cond_ x y))
    | _, _ => none
  | some ea, some (.g _ _ gb eb) => match asB ea, asB eb with
    | some x, some y => some (some (ifB cond_ true gb), .b (ifB cond_ x y))
    | _, _ => none
  | some ea, some eb => match asB ea, asB eb with
    | some x, some y => some (none, .b (ifB cond_ x y))
    | _, _ => none
  | _, _ => none
def fnChk (env : Env) : List Operand → List (List K) → Option (Option Bool)
  | [], [] => some none
  | x :: r, l :: ls => match evO env x with
    | some (.n (.ptr l' false nn) _ p) => cond (beqKs l l') (match fnChk env r ls with
      | some b => some (andC (some (ifB (Nat.beq p 0) false (Nat.blt p 268435456))) b)
      | none => none) none
    | _ => none
  | _, _ => none
def semFunc (fn : Fn) (first caps : List Operand) (env : Env) : Sem1 :=
  match fn, first with
  | .func g, [] => cond (Nat.blt g 1022 && Nat.ble caps.length 2) (match fnChk env caps (capT g), fnN env caps 0 (Nat.succ g) with
    | some b, some x => some (b, .n (.one .fn) false x)
    | _, _ => none) none
  | _, _ => none
def minmax (mx : Bool) (k : IntKind) (x y : Nat) : Nat := ifB (intLt k x y) (stat mx y x) (stat mx x y)
def foldMM (mx : Bool) (k : IntKind) (env : Env) : List Operand → Nat → Option Nat
  | [], acc => some acc
  | x :: r, acc => match evO env x with
    | some (.n (.one (.int k')) _ y) => cond (Nat.beq (kidx k) (kidx k')) (foldMM mx k env r (minmax mx k acc y)) none
    | _ => none
def semMM (mx : Bool) (env : Env) : List Operand → Sem1
  | x :: r => match evO env x with
    | some (.n (.one (.int k)) _ y) => match foldMM mx k env r y with
      | some z => some (none, .n (.one (.int k)) false z)
      | none => none
    | _ => none
  | [] => none
def semBuiltin (b : Builtin) (tys : List Nat) (args : List Operand) (env : Env) : Sem1 :=
  match b with
  | .len => match tys, args with
    | [t], [x] => match ty t, evO env x with
      | ⟨.str, _⟩, some (.n (.one .str) _ h) => some (none, .n (.one (.int .i64)) false (strLen h))
      | ⟨.sli _, _⟩, some (.n (.sli _) _ h) => some (none, .n (.one (.int .i64)) false (sln h))
      | ⟨.sli _, _⟩, some (.z 1) => some (none, .n (.one (.int .i64)) true 0)
      | ⟨.sli _, _⟩, some (.ls _ n) => cond (Nat.blt n 131072) (some (none, .n (.one (.int .i64)) true n)) none
      | _, _ => none
    | _, _ => none
  | .max => semMM true env args
  | .min => semMM false env args
  | .real => match args with
    | [x] => match evO env x with
      | some (.c 0) => some (none, .c 1)
      | some (.c 3) => some (none, .c 2)
      | _ => none
    | _ => none
  | .imag => match args with
    | [x] => match evO env x with
      | some (.c 0) => some (none, .c 1)
      | some (.c 3) => some (none, .c 2)
      | _ => none
    | _ => none
  | .complex => match args with
    | [x, y] => match evO env x, evO env y with
      | some (.c 1), some (.c 1) => some (none, .c 0)
      | some (.c 2), some (.c 2) => some (none, .c 3)
      | _, _ => none
    | _ => none
  | _ => none
def sem (o : Oper) (env : Env) (lo : Lo) (c : Core) : Sem1 :=
  match o.op with
  | .move x => match evO env x with | some e => some (none, e) | none => none
  | .assign x => match evO env x with | some e => some (none, e) | none => none
  | .pick x a b => match evO env x with
    | some e => match asB e with
      | some q => semPick q (rawO env a) (rawO env b)
      | none => none
    | none => none
  | .load t a => match evO env a with | some e => semLoad t e lo c | none => none
  | .nilCheck x => match evO env x with | some e => semNil e | none => none
  | .binOp op t x y _ => match evO env x, evO env y with | some a, some b => semBin op t a b c | _, _ => none
  | .unOp op _ x => match evO env x with | some e => semUn op e | none => none
  | .convert s d x => match evO env x with | some e => semConv s d e | none => none
  | .fieldAddr t x f => match evO env x with | some e => semFieldAddr t e f | none => none
  | .field t x f => match evO env x with | some e => semField t e f | none => none
  | .indexAddr t x i => match evO env x, evO env i with | some a, some b => semIndexAddr t a b | _, _ => none
  | .index t x i => match evO env x, evO env i with | some a, some b => semIndex t a b c | _, _ => none
  | .slice t x a b m => match evO env x, optN env a, optN env b, optN env m with
    | some e, some l, some h, some q => semSlice t e l h q
    | _, _, _, _ => none
  | .extract x i => match evO env x with | some e => semExtract e i | none => none
  | .build t ps => semBuild t ps.toList env
  | .makeFunc fn f cs => semFunc fn f.toList cs.toList env
  | .call cl => match cl.callee with
    | .builtin b => semBuiltin b cl.argTypes.toList cl.args.toList env
    | _ => none
  | _ => none
def gOf (want c : Bool) : Bool := stat want c (notB c)
def gval (want : Bool) (e : Ent) : Option Bool :=
  match e with
  | .g _ _ gb e => match asB e with
    | some c => some (ifB gb (gOf want c) false)
    | none => none
  | e => match asB e with
    | some c => some (gOf want c)
    | none => none
def guardOf (all : List Oper) (env : Env) (o : Oper) : Option Gd :=
  match o.guard with
  | none => some none
  | some (j, want) => match nthO j all with
    | some oj => match oj.dst with
      | some s => match getA env s with
        | some e => match gval want e with
          | some gb => some (some (s, want, gb))
          | none => none
        | none => none
      | none => none
    | none => none
def gchk (gd : Gd) (chk : Option Bool) : Option Bool :=
  match gd, chk with
  | none, c => c
  | some _, none => none
  | some (_, _, gb), some c => some (ifB gb c true)
def genv (gd : Gd) (env : Env) : Env :=
  match gd with
  | none => env
  | some (s, w, _) => unlock s w env
def chkK (chk : Option Bool) (k : Bool) : Bool :=
  match chk with
  | none => k
  | some c => okB c k
def notSlot (gd : Gd) (d : Nat) : Bool :=
  match gd with
  | none => true
  | some (s, _, _) => notB (Nat.beq d s)
def setK (nt : Nat) (forced : List Nat) (dst : Option Nat) (gd : Gd) (e : Ent) (env : Env) (k : Env → Bool) : Bool :=
  match dst with
  | none => k env
  | some d => stat (noG d env && Nat.blt d nt && notSlot gd d && notGE e)
    (match memN d forced, e with
    | true, .n sh false x => force x (fun v => k ((d, some (gent gd (.n sh true v))) :: env))
    | _, _ => k ((d, some (gent gd e)) :: env)) false
def toNs (env : Env) : List Sh → List Operand → Option (List (Bool × Nat))
  | [], [] => some []
  | s :: ss, x :: xs => match evO env x with
    | some e => match toN s e with
      | some n => match toNs env ss xs with
        | some r => some (n :: r)
        | none => none
      | none => none
    | none => none
  | _, _ => none
def callF (fns : List (Nat × FunE)) (g : Nat) (args : List Operand) (x : Nat) (env : Env) (c : Core) (k : List Nat → Core → Bool) : Bool :=
  match findFn g fns with
  | none => false
  | some F => match toNs env (takeS (lenO args) F.ps) args, capFit (dropS (lenO args) F.ps) (capNs x (capT g) 0) with
    | some l, some m => forceAll (appL l m) (fun xs => F.f xs c k)
    | _, _ => false
def callD (fns : List (Nat × FunE)) (args : List Operand) (x : Nat) (env : Env) (c : Core) (k : List Nat → Core → Bool) : List Nat → Bool
  | [] => false
  | g :: gs => ifB (Nat.beq (Nat.land x 1023) (Nat.succ g)) (callF fns g args x env c k) (callD fns args x env c k gs)
def callT (I : FI) (t : Tgt) (rs : List Sh) (args : List Operand) (env : Env) (c : Core) (k : List Nat → Core → Bool) : Bool :=
  match t with
  | .one g => callF I.fns g args 0 env c k
  | .any x gs => stat (allRs I.fns rs gs) (callD I.fns args x env c k gs) false
def denCall (I : FI) (dst : Option Nat) (gd : Gd) (f : Operand) (args : List Operand) (env : Env) (lo : Lo) (c : Core) (k : Env → Lo → Core → Bool) : Bool :=
  match tgtOf I dst (genv gd env) f with
  | none => false
  | some t => match tgtRs I t with
    | none => false
    | some rs => match gd with
      | none => match manyC t with
        | false => callT I t rs args env c (fun xs c' => setK I.nt I.forced dst none (resEnt rs xs) env (fun env => k env lo c'))
        | true => join (NF.of (lenS rs) (fun xs c' => setK I.nt I.forced dst none (resEnt rs xs) env (fun env => k env lo c')))
            (fun J => callT I t rs args env c (fun xs c' => NF.ap (lenS rs) J xs c'))
      | some (s, w, gb) => join (NF.of (lenS rs) (fun xs c' => setK I.nt I.forced dst gd (resEnt rs xs) env (fun env => k env lo c')))
          (fun J => ifB gb (callT I t rs args (unlock s w env) c (fun xs c' => NF.ap (lenS rs) J xs c')) (NF.ap (lenS rs) J (zerosS rs) c))
def partSet (L : List K) (y o n z : Nat) : Nat := stat (Nat.beq o 0 && Nat.beq n (lenK L)) z (putN y o n z)
def denStore (t : Nat) (ep ev : Ent) (lo : Lo) (c : Core) (k : Lo → Core → Bool) : Bool :=
  match ty t with
  | ⟨d, n⟩ => match ep with
    | .n (.ptr l mo nn) _ x =>
      stat (Nat.beq n (lenK l) && Nat.blt 0 n)
        (match toLay l d.isRow ev with
        | some y => chkK (ptrChk c.d mo nn x n) (wrK c.m x n y (fun m => k lo ⟨m, c.t, c.s, c.d⟩))
        | none => false) false
    | .lp i l o =>
      stat (Nat.beq n (lenK l) && Nat.blt 0 n)
        (match locOf lo i with
        | some (L, y) => stat (beqKs l (takeK n (dropK o L)))
          (match toLay l d.isRow ev with
          | some z => force (partSet L y o n z) (fun v => k ((i, some (.blk L v)) :: lo) c)
          | none => false) false
        | none => false) false
    | _ => false
def newLoc (nt : Nat) (d : Nat) (e : Ent) (b : LoE) (env : Env) (lo : Lo) (k : Env → Lo → Bool) : Bool :=
  stat (noLo d lo && noL d env && noG d env && Nat.blt d nt) (k ((d, some e) :: env) ((d, some b) :: lo)) false
def nRow (n y : Nat) (zero : Bool) (c : Core) (k : Core → Bool) : Bool :=
  force (Nat.add c.t n) (fun t => okB (Nat.blt t 4194304)
    (match zero with
    | true => k ⟨c.m, t, c.s, c.d⟩
    | false => force (apv c.m c.t y) (fun m => k ⟨m, t, c.s, c.d⟩)))
def denAlloc (I : FI) (dst : Option Nat) (t : Nat) (env : Env) (lo : Lo) (c : Core) (k : Env → Lo → Core → Bool) : Bool :=
  match dst with
  | none => false
  | some d => stat (zeroOk t && Nat.blt 0 (lenK (lay t)))
    (match memN d I.locs with
    | true => newLoc I.nt d (.lp d (lay t) 0) (.blk (lay t) 0) env lo (fun env lo => k env lo c)
    | false => force (Nat.shiftLeft c.t 6) (fun p => nRow (lenK (lay t)) 0 true c (fun c => setK I.nt I.forced dst none (.n (.ptr (lay t) false true) true p) env (fun env => k env lo c)))) false
def denBox (I : FI) (dst : Option Nat) (t : Nat) (ev : Ent) (env : Env) (lo : Lo) (c : Core) (k : Env → Lo → Core → Bool) : Bool :=
  match dst with
  | none => false
  | some d => stat (Nat.beq (ty t).size (lenK (lay t)) && Nat.blt 0 (lenK (lay t)))
    (match toLay (lay t) (ty t).desc.isRow ev with
    | none => false
    | some y => match memN d I.locs with
      | true => force y (fun y => newLoc I.nt d (.lp d (lay t) 0) (.blk (lay t) y) env lo (fun env lo => k env lo c))
      | false => force (Nat.shiftLeft c.t 6) (fun p => nRow (lenK (lay t)) y false c (fun c => setK I.nt I.forced dst none (.n (.ptr (lay t) false true) true p) env (fun env => k env lo c)))) false
def denBuildS (I : FI) (dst : Option Nat) (t len : Nat) (ps : List (Nat × Operand)) (env : Env) (lo : Lo) (c : Core) (k : Env → Lo → Core → Bool) : Bool :=
  match dst, ty t with
  | some d, ⟨.sli el, _⟩ => stat (zeroOk el && Nat.blt 0 (lenK (lay el)) && Nat.beq (ty el).size (lenK (lay el)) && Nat.blt 0 len && Nat.blt (Nat.mul len (lenK (lay el))) 131072)
    (match partsN (placeArr len el) (repK len (lay el)) env ps 0 0 with
    | none => false
    | some y => match memN d I.locs with
      | true => force y (fun y => newLoc I.nt d (.ls d len) (.blk (repK len (lay el)) y) env lo (fun env lo => k env lo c))
      | false => force (Nat.shiftLeft c.t 6) (fun p => nRow (Nat.mul len (lenK (lay el))) y false c (fun c => setK I.nt I.forced dst none (.n (.sli (lay el)) false (slmk p len len 1)) env (fun env => k env lo c)))) false
  | _, _ => false
def denCat (I : FI) (dst : Option Nat) (x y : Nat) (env : Env) (lo : Lo) (c : Core) (k : Env → Lo → Core → Bool) : Bool :=
  force (lg c.s) (fun l => force (Nat.add (strLen x) (strLen y)) (fun n =>
    okB (ifB (Nat.blt n 65536) (Nat.blt l 8796093022208) false)
      (force (catS c.s x y) (fun s => setK I.nt I.forced dst none (.n (.one .str) false (Nat.add (Nat.shiftLeft l 16) n)) env (fun env => k env lo ⟨c.m, c.t, s, c.d⟩)))))
def appendK (z x n y : Nat) (c : Core) (k : Nat → Core → Bool) : Bool :=
  cond (Nat.beq n 0) (k x c)
  (cond (Nat.beq x 0)
    (force (Nat.shiftLeft c.t 6) (fun p => nRow (Nat.mul n z) y false c (fun c => k (slmk p n n 0) c)))
    (cond (Nat.beq (slp x) 0) false
      (cond (Nat.beq (deadBits c.d (slp x) (Nat.mul (scp x) z)) 0)
        (force (sln x) (fun len => force (Nat.add len n) (fun need => cond (Nat.ble need (scp x))
          (wrK c.m (Nat.add (slp x) (Nat.mul len (Nat.shiftLeft z 6))) (Nat.mul n z) y (fun m => k (slmk (slp x) need (scp x) (sex x)) ⟨m, c.t, c.s, c.d⟩))
          (cond (Nat.blt need 131072)
            (force (Nat.shiftLeft c.t 6) (fun p => nRow (Nat.mul need z) (Nat.xor (rd c.m (slp x) (Nat.mul len z)) (Nat.shiftLeft y (Nat.shiftLeft (Nat.mul len z) 6))) false c (fun c' =>
              cond (Nat.beq (sex x) 0)
                (force (Nat.lor c.d (Nat.shiftLeft (Nat.sub (Nat.shiftLeft 1 (Nat.mul (scp x) z)) 1) (Nat.shiftRight (slp x) 6))) (fun d => k (slmk p need need 0) ⟨c'.m, c'.t, c'.s, d⟩))
                (k (slmk p need need 0) c')))) false)))) false)))
def denAppend (I : FI) (dst : Option Nat) (ts : List Nat) (s x : Operand) (env : Env) (lo : Lo) (c : Core) (k : Env → Lo → Core → Bool) : Bool :=
  match ts with
  | [t, t'] => stat (Nat.beq t t') (match ty t with
    | ⟨.sli el, _⟩ => stat (zeroOk el && Nat.blt 0 (lenK (lay el)) && Nat.beq (ty el).size (lenK (lay el)) && Nat.blt (bytesT el) 1048576)
      (match evO env s, evO env x with
      | some es, some ex => match toN (.sli (lay el)) es, srcOf el ex lo c with
        | some (_, xs), some (chk, n, y, _) => chkK chk (join (NF.of 1 (fun l c => setK I.nt I.forced dst none (resEnt [.sli (lay el)] l) env (fun env => k env lo c)))
            (fun J => force xs (fun xs => force n (fun n => appendK (lenK (lay el)) xs n y c (fun r c => force r (fun r => NF.ap 1 J [r] c))))))
        | _, _ => false
      | _, _ => false) false
    | _ => false) false
  | _ => false
def denClear (I : FI) (dst : Option Nat) (ts : List Nat) (s : Operand) (env : Env) (lo : Lo) (c : Core) (k : Env → Lo → Core → Bool) : Bool :=
  match ts with
  | [t] => match ty t with
    | ⟨.sli el, _⟩ => stat (zeroOk el && Nat.blt 0 (lenK (lay el)) && Nat.beq (ty el).size (lenK (lay el)))
      (match evO env s with
      | some (.n (.sli l) _ x) => stat (beqKs l (lay el))
        (join (NF.of 0 (fun _ c => setK I.nt I.forced dst none (.tup []) env (fun env => k env lo c)))
          (fun J => cond (Nat.beq (sln x) 0) (NF.ap 0 J [] c)
            (cond (Nat.beq (deadBits c.d (slp x) (Nat.mul (sln x) (lenK l))) 0) (wrK c.m (slp x) (Nat.mul (sln x) (lenK l)) 0 (fun m => NF.ap 0 J [] ⟨m, c.t, c.s, c.d⟩)) false))) false
      | _ => false) false
    | _ => false
  | _ => false
def denEmpty (I : FI) (dst : Option Nat) (t : Nat) (ps : List (Nat × Operand)) (env : Env) (lo : Lo) (c : Core) (k : Env → Lo → Core → Bool) : Bool :=
  match dst, ty t, ps with
  | some d, ⟨.sli el, _⟩, [] => stat (zeroOk el && Nat.blt 0 (lenK (lay el)) && Nat.beq (ty el).size (lenK (lay el)))
    (setK I.nt I.forced dst none (.n (.sli (lay el)) false (slmk (Nat.shiftLeft c.t 6) 0 0 1)) env (fun env => k env lo c)) false
  | _, _, _ => false
def denStr (I : FI) (dst : Option Nat) (t t' : Nat) (l : List K) (x : Nat) (env : Env) (lo : Lo) (c : Core) (k : Env → Lo → Core → Bool) : Bool :=
  match ty t, ty t' with
  | ⟨.sli el, _⟩, ⟨.str, _⟩ => match ty el with
    | ⟨.int .u8, _⟩ => stat (beqKs l (lay el) && beqKs l [.int .u8])
      (force (lg c.s) (fun L => force (sln x) (fun n =>
        okB (ifB (Nat.blt n 65536) (ifB (Nat.blt L 8796093022208) (Nat.beq (deadBits c.d (slp x) (Nat.mul (sln x) (lenK l))) 0) false) false)
          (force (packB c.m (slp x) n) (fun v => force (bytS c.s v n) (fun s => setK I.nt I.forced dst none (.n (.one .str) false (Nat.add (Nat.shiftLeft L 16) n)) env (fun env => k env lo ⟨c.m, c.t, s, c.d⟩))))))) false
    | _ => false
  | _, _ => false
def denRange (I : FI) (dst : Option Nat) (t : Nat) (e : Ent) (env : Env) (lo : Lo) (c : Core) (k : Env → Lo → Core → Bool) : Bool :=
  match dst, ty t, e with
  | some d, ⟨.str, _⟩, .n (.one .str) _ h => newLoc I.nt d (.it d) (.itr h 0) env lo (fun env lo => k env lo c)
  | _, _, _ => false
def denNext (I : FI) (dst : Option Nat) (e : Ent) (env : Env) (lo : Lo) (c : Core) (k : Env → Lo → Core → Bool) : Bool :=
  match e with
  | .it i => match getA lo i with
    | some (.itr h p) => ifB (Nat.blt p (strLen h))
        (force (Nat.land (Nat.shiftRight c.s (Nat.add (strAt h) (Nat.shiftLeft p 3))) 255) (fun b =>
          okB (Nat.blt b 128)
            (setK I.nt I.forced dst none (.tup [.b true, .n (.one (.int .i64)) true p, .n (.one (.int .i32)) true b]) env (fun env => force (Nat.succ p) (fun p => k env ((i, some (.itr h p)) :: lo) c)))))
        (setK I.nt I.forced dst none (.tup [.b false]) env (fun env => k env lo c))
    | _ => false
  | _ => false
def denOp (I : FI) (o : Oper) (gd : Gd) (env : Env) (lo : Lo) (c : Core) (k : Env → Lo → Core → Bool) : Bool :=
  match o.op with
  | .call cl => match cl.callee with
    | .value f => denCall I o.dst gd f cl.args.toList env lo c k
    | .builtin b => match b, cl.args.toList, gd with
      | .append, [s, x], none => denAppend I o.dst cl.argTypes.toList s x env lo c k
      | .clear, [s], none => denClear I o.dst cl.argTypes.toList s env lo c k
      | .append, _, _ => false
      | .clear, _, _ => false
      | _, _, _ => match sem o (genv gd env) lo c with
        | some (chk, e) => chkK (gchk gd chk) (setK I.nt I.forced o.dst gd e env (fun env => k env lo c))
        | none => false
    | .invoke _ _ => false
  | .store t p v => match gd, o.dst, evO env p, evO env v with
    | none, none, some ep, some ev => denStore t ep ev lo c (fun lo c => k env lo c)
    | _, _, _, _ => false
  | .alloc t => match gd with
    | none => denAlloc I o.dst t env lo c k
    | some _ => false
  | .box t v => match gd, evO env v with
    | none, some ev => denBox I o.dst t ev env lo c k
    | _, _ => false
  | .buildSlice t len ps => match gd with
    | none => stat (Nat.beq len 0) (denEmpty I o.dst t ps.toList env lo c k) (denBuildS I o.dst t len ps.toList env lo c k)
    | some _ => false
  | .convert t t' x => match gd, evO env x with
    | none, some (.n (.sli l) _ h) => denStr I o.dst t t' l h env lo c k
    | _, _ => match sem o (genv gd env) lo c with
      | some (chk, e) => chkK (gchk gd chk) (setK I.nt I.forced o.dst gd e env (fun env => k env lo c))
      | none => false
  | .range t x => match gd, evO env x with
    | none, some e => denRange I o.dst t e env lo c k
    | _, _ => false
  | .next x true => match gd, evO env x with
    | none, some e => denNext I o.dst e env lo c k
    | _, _ => false
  | .binOp .add _ x y _ => match gd, evO env x, evO env y with
    | none, some (.n (.one .str) _ h), some (.n (.one .str) _ h') => denCat I o.dst h h' env lo c k
    | _, _, _ => match sem o (genv gd env) lo c with
      | some (chk, e) => chkK (gchk gd chk) (setK I.nt I.forced o.dst gd e env (fun env => k env lo c))
      | none => false
  | _ => match sem o (genv gd env) lo c with
    | some (chk, e) => chkK (gchk gd chk) (setK I.nt I.forced o.dst gd e env (fun env => k env lo c))
    | none => false
def denOps (I : FI) (all : List Oper) : List Oper → Env → Lo → Core → (Env → Lo → Core → Bool) → Bool
  | [], env, lo, c, k => k env lo c
  | o :: rest, env, lo, c, k => match guardOf all env o with
    | none => false
    | some gd => denOp I o gd env lo c (fun env lo c => denOps I all rest env lo c k)
def freshI (ops : Array Oper) (ms : List (Nat × Nat)) (hard : Bool) (i : Nat) (d : Nat) (mi : Nat) : List Oper → Nat → Bool
  | [], _ => true
  | o :: l, j => cond (cond (Nat.beq j i) (cond hard true (notB (memN d (looksO ops o)))) (cond (bitOf (lookM j ms) i) true (cond (cond hard (bitOf mi j) false) true
      (cond (memN d (looksO ops o)) false (notB (beqO d o.dst)))))) (freshI ops ms hard i d mi l (Nat.succ j)) false
def noLook2 (ops : Array Oper) (d : Nat) : List (Nat × Nat) → Bool
  | [] => true
  | (j, k) :: l => cond (cond (Nat.beq k 2) (match nthO j ops.toList with
    | some o => notB (memN d (looksO ops o))
    | none => false) true) (noLook2 ops d l) false
def drwOk (I : FI) (ops : Array Oper) (ms : List (Nat × Nat)) : List (Nat × Nat) → Nat → Bool
  | [], done => Nat.beq done (Nat.sub (Nat.shiftLeft 1 ops.size) 1)
  | (i, k) :: l, done => match nthO i ops.toList with
    | none => false
    | some o => cond (bitOf done i) false (cond (Nat.beq (Nat.lor done (onMask o.after.toList)) done) (cond (noSel o) (cond
        (match k with
        | 0 => match o.dst with
          | some d => freshI ops ms false i d 0 ops.toList 0
          | none => true
        | 1 => cond (match o.dst with
          | some d => freshI ops ms true i d (lookM i ms) ops.toList 0
          | none => true) (belowAll ms i l) false
        | _ => cond (isAI I o) (cond (match o.dst with
          | some d => freshI ops ms false i d 0 ops.toList 0
          | none => true) (cond (match o.dst with
          | some d => noLook2 ops d l
          | none => true) (belowAll ms i l) false) false) false)
        (drwOk I ops ms l (Nat.lor done (Nat.shiftLeft 1 i))) false) false) false)
def noS (all : List Oper) (env : Env) : List (Nat × Nat) → Bool
  | [] => true
  | (j, _) :: l => match nthO j all with
    | none => false
    | some o => match guardOf all env o with
      | none => false
      | some gd => cond (strO o (genv gd env)) false (noS all env l)
def eqE (e e' : Ent) : Option Bool :=
  match e, e' with
  | .n s _ x, .n s' _ y => cond (fitSh s s') (some (Nat.beq x y)) none
  | .b x, .b y => some (eqB x y)
  | .c i, .c j => cond (Nat.beq i j) (some true) none
  | _, _ => none
def again (all : List Oper) (o : Oper) (env : Env) (lo : Lo) (c : Core) (k : Bool) : Bool :=
  match guardOf all env o with
  | none => false
  | some gd => stat (stateO o (genv gd env)) (match o.dst with
    | none => false
    | some d => match getA env d, sem o (genv gd env) lo c with
      | some e0, some (chk, e) => match unG gd e0 with
        | none => false
        | some e0 => match eqE e e0 with
          | none => false
          | some b => chkK (gchk gd chk) (chkK (gchk gd (some b)) k)
      | _, _ => false) k
def againAll (all : List Oper) (mi : Nat) (env : Env) (lo : Lo) (c : Core) (k : Bool) : List (Nat × Nat) → Bool
  | [] => k
  | (j, q) :: l => match q with
    | 0 => stat (bitOf mi j) (againAll all mi env lo c k l) (match nthO j all with
      | none => false
      | some o => again all o env lo c (againAll all mi env lo c k l))
    | _ => againAll all mi env lo c k l
def denDrw (I : FI) (all : List Oper) (ms : List (Nat × Nat)) : List (Nat × Nat) → List (Nat × Nat) → Env → Lo → Core → (Env → Lo → Core → Bool) → Bool
  | [], done, env, lo, c, k => k env lo c
  | (i, q) :: rest, done, env, lo, c, k => match nthO i all with
    | none => false
    | some o => match guardOf all env o with
      | none => false
      | some gd => match q with
        | 0 => stat (lightO o gd env) (denOp I o gd env lo c (fun env' lo c => stat (stat (catO o gd env) (noS all env' done) true) (denDrw I all ms rest ((i, q) :: done) env' lo c k) false)) false
        | _ => denOp I o gd env lo c (fun env lo c => againAll all (lookM i ms) env lo c (denDrw I all ms rest ((i, q) :: done) env lo c k) done)
def denDrawn (I : FI) (ops : Array Oper) (pi : List (Nat × Nat)) (env : Env) (lo : Lo) (c : Core) (k : Env → Lo → Core → Bool) : Bool :=
  stat (drwOk I ops (masksOf ops.toList pi []) pi 0) (denDrw I ops.toList (masksOf ops.toList pi []) pi [] env lo c k) false
def getPs (env : Env) (lo : Lo) : List (Nat × PSh) → Option (List (Bool × Nat))
  | [] => some []
  | (i, .sh s) :: ps => match evO env (.tmp i) with
    | some e => match toN s e with
      | some n => match getPs env lo ps with
        | some r => some (n :: r)
        | none => none
      | none => none
    | none => none
  | (i, .loc l) :: ps => match evO env (.tmp i), locOf lo i with
    | some (.lp j l' o), some (L, y) => cond (Nat.beq j i && Nat.beq o 0 && beqKs l L && beqKs l' L)
      (match getPs env lo ps with
      | some r => some ((true, y) :: r)
      | none => none) none
    | _, _ => none
  | (i, .itr) :: ps => match evO env (.tmp i), getA lo i with
    | some (.it j), some (.itr h p) => cond (Nat.beq j i)
      (match getPs env lo ps with
      | some r => some ((false, Nat.add (Nat.shiftLeft h 16) p) :: r)
      | none => none) none
    | _, _ => none
def jump (ps : List (Nat × PSh)) (J : NF (lenP ps)) (env : Env) (lo : Lo) (c : Core) : Bool :=
  match getPs env lo ps with
  | some l => forceAll l (fun xs => NF.ap (lenP ps) J xs c)
  | none => false
def den (I : FI) : An → Code → Env → Lo → Core → Kont → Bool
  | .skip, .skip, env, lo, c, k => k .nm env lo c
  | .skip, .label _, env, lo, c, k => k .nm env lo c
  | .reg, .region _ ops false, env, lo, c, k => denOps I ops.toList ops.toList env lo c (fun env lo c => k .nm (stripG env) lo c)
  | .drw pi, .region _ ops true, env, lo, c, k => denDrawn I ops pi env lo c (fun env lo c => k .nm (stripG env) lo c)
  | .ret, .ret, env, lo, c, k => k .rt env lo c
  | .ex, .exit id, env, lo, c, k => k (.ex id) env lo c
  | .go, .goto l, env, lo, c, k => k (.gt l) env lo c
  | .sq a b, .seq x y, env, lo, c, k => den I a x env lo c (fun e env lo c => match e with
    | .nm => den I b y env lo c k
    | e => k e env lo c)
  | .sj ps a b, .seq x y, env, lo, c, k => stat (psIn ps (asg x) (hasSt x)) (join (NF.of (lenP ps) (fun l c => den I b y (baseEnv env x ps l) (baseLo lo x ps l) c k))
      (fun J => den I a x env lo c (fun e env' lo' c' => match e with
        | .nm => jump ps J env' lo' c'
        | e => k e env' lo' c'))) false
  | .cd a b, .cond q x y, env, lo, c, k => match evO env q with
    | some e => match asB e with
      | some t => ifB t (den I a x env lo c k) (den I b y env lo c k)
      | none => false
    | none => false
  | .bl a, .block id x, env, lo, c, k => den I a x env lo c (fun e env lo c => match e with
    | .ex i => stat (Nat.beq i id) (k .nm env lo c) (k (.ex i) env lo c)
    | e => k e env lo c)
  | .lp ps fuel a, .loop x, env, lo, c, k => stat (psIn ps (asg x) (hasSt x))
    (jump ps (loopN fuel (NF.of (lenP ps) (fun _ _ => false)) (fun ih => NF.of (lenP ps) (fun l c => den I a x (baseEnv env x ps l) (baseLo lo x ps l) c (fun e env' lo' c' => match e with
      | .nm => jump ps ih env' lo' c'
      | e => k e env' lo' c')))) env lo c) false
  | .sc a, .scope x, env, lo, c, k => den I a x env lo c (fun e env lo c => match e with
    | .gt l => match findLabel x l with
      | none => k (.gt l) env lo c
      | some _ => false
    | e => k e env lo c)
  | .lb l ps fuel r a, x, env, lo, c, k => match findLabel x l with
    | none => false
    | some rest => stat (psIn ps (asg x) (hasSt x)) (join (loopN fuel (NF.of (lenP ps) (fun _ _ => false)) (fun ih => NF.of (lenP ps) (fun xs c => den I r rest (baseEnv env x ps xs) (baseLo lo x ps xs) c (fun e env' lo' c' => match e with
        | .gt l' => stat (Nat.beq l' l) (jump ps ih env' lo' c') (k (.gt l') env' lo' c')
        | e => k e env' lo' c'))))
      (fun J => den I a x env lo c (fun e env' lo' c' => match e with
        | .gt l' => stat (Nat.beq l' l) (jump ps J env' lo' c') (k (.gt l') env' lo' c')
        | e => k e env' lo' c'))) false
  | .mn a, x, env, lo, c, k => den I a x env lo c k
  | _, _, _, _, _, _ => false
def resNs (env : Env) (lo : Lo) (c : Core) : List ResultVar → List Sh → Option (List (Option Bool × Bool × Nat))
  | [], [] => some []
  | .tmp t :: vs, s :: ss => match evO env (.tmp t) with
    | some e => match toN s e with
      | some (fl, n) => match resNs env lo c vs ss with
        | some r => some ((none, fl, n) :: r)
        | none => none
      | none => none
    | none => none
  | .cell t ty' :: vs, s :: ss => match evO env (.tmp t) with
    | some e => match semLoad ty' e lo c with
      | some (chk, e') => match toN s e' with
        | some (fl, n) => match resNs env lo c vs ss with
          | some r => some ((chk, fl, n) :: r)
          | none => none
        | none => none
      | none => none
    | none => none
  | _, _ => none
def chkAll : List (Option Bool × Bool × Nat) → (List (Bool × Nat) → Bool) → Bool
  | [], k => k []
  | (chk, fl, n) :: l, k => chkK chk (chkAll l (fun r => k ((fl, n) :: r)))
def denF (I : FI) (an : An) (code : Code) (vars : List ResultVar) (ps rs : List Sh) : List Nat → Core → (List Nat → Core → Bool) → Bool := fun args c k =>
  den I an code (argEnv ps args 0) [] c (fun e env lo c => match e with
    | .nm => match resNs env lo c vars rs with
      | some l => chkAll l (fun l => forceAll l (fun xs => k xs c))
      | none => false
    | .rt => match resNs env lo c vars rs with
      | some l => chkAll l (fun l => forceAll l (fun xs => k xs c))
      | none => false
    | _ => false)
end
theorem denF_eq : @denF = @VM.denF := by kernel_rfl
end Go.Proofs.YtaekfgbfpfecdaaGreat.VM.R

/- What the printed functions lean on; functions called with what they are known by; no conditions but those that each theorem names. -/
namespace Go.Proofs.YtaekfgbfpfecdaaGreat.VM
open Go
set_option linter.unusedVariables false
set_option linter.unusedSimpArgs false
variable {P : Program}

noncomputable def appR (z xs n y m t s d : Nat) (J : NF 1) : Bool := force xs (fun xs => force n (fun n => R.appendK z xs n y ⟨m, t, s, d⟩ (fun r c => force r (fun r => NF.ap 1 J [r] c))))
noncomputable def clrR (x z m t s d : Nat) (J : NF 0) : Bool := cond (Nat.beq (sln x) 0) (J m t s d) (cond (Nat.beq (deadBits d (slp x) (Nat.mul (sln x) z)) 0) (wrK m (slp x) (Nat.mul (sln x) z) 0 (fun m => J m t s d)) false)
def FT : Nat → Nat → Type
  | 0, r => Nat → Nat → Nat → Nat → NF r → Bool
  | n + 1, r => Nat → FT n r
def wrapF : (n r : Nat) → FT n r → List Nat → Core → (List Nat → Core → Bool) → Bool
  | 0, r, f, [], c, k => f c.m c.t c.s c.d (NF.of r k)
  | n + 1, r, f, x :: l, c, k => wrapF n r (f x) l c k
  | _, _, _, _, _, _ => false
def AllN : Nat → (List Nat → Prop) → Prop
  | 0, p => p []
  | n + 1, p => ∀ x, AllN n fun l => p (x :: l)
theorem AllN.all : ∀ {n : Nat} {p : List Nat → Prop}, AllN n p → ∀ l, l.length = n → p l
  | 0, p, h, [], _ => h
  | n + 1, p, h, x :: l, hl => AllN.all (p := fun l => p (x :: l)) (h x) l (by simpa using hl)
theorem FunOK.wrap {g : FuncId} {ps rs : List Sh} {F F' : List Nat → Core → (List Nat → Core → Bool) → Bool} (h : FunOK P g ⟨ps, rs, F⟩) (e : AllN ps.length fun l => ∀ m t s d k, F l ⟨m, t, s, d⟩ k = F' l ⟨m, t, s, d⟩ k) : FunOK P g ⟨ps, rs, F'⟩ := by
  intro l c hl
  have e' : ∀ k, F l c k = F' l c k := e.all l hl c.m c.t c.s c.d
  rcases h l c hl with h1 | ⟨xs, c', h1, h2, h3⟩
  · exact .inl fun k => (e' k).symm.trans (h1 k)
  · exact .inr ⟨xs, c', fun k => (e' k).symm.trans (h1 k), h2, h3⟩
theorem FnsOK.nil : FnsOK P [] := fun g F h => by cases h
theorem FnsOK.cons {g : FuncId} {F : FunE} {l : List (Nat × FunE)} (h : FunOK P g F) (hl : FnsOK P l) : FnsOK P ((g, F) :: l) := by
  intro g' F' h'
  simp only [findFn] at h'
  cases q : Nat.beq g g' with
  | false => rw [q] at h'; exact hl g' F' h'
  | true =>
    rw [q] at h'
    cases h'
    rw [← Nat.eq_of_beq_eq_true q]
    exact h
theorem FunOK.dead {g : FuncId} {ps rs : List Sh} : FunOK P g ⟨ps, rs, fun _ _ _ => false⟩ := fun _ _ _ => .inl fun _ => rfl
/-- A function's body. -/
def bodyOf (fn : Func) : Code := fn.body.getD .skip
theorem fun_ok (hF : Facts P) (hm : P.follows .mixedOrders = true) {I : FI} (hfns : FnsOK P I.fns) {g : FuncId} {fn : Func} (hf : P.funcs[g]? = some fn) (hb : fn.body = some (bodyOf fn)) (hn : (fn.name == "runtime.NumGoroutine") = false) (hnt : fn.ntmps = I.nt)
    {an : An} (han : an.okB false = true) {ps rs : List Sh} (hps : Nat.ble ps.length I.nt = true) {F : List Nat → Core → (List Nat → Core → Bool) → Bool} (e : AllN ps.length fun l => ∀ m t s d k, R.denF I an (bodyOf fn) fn.results.toList ps rs l ⟨m, t, s, d⟩ k = F l ⟨m, t, s, d⟩ k) : FunOK P g ⟨ps, rs, F⟩ :=
  (denF_ok hF hm hfns hf hb hn hnt han (Nat.le_of_ble_eq_true hps) rfl (congrFun (congrFun (congrFun (congrFun (congrFun (congrFun R.denF_eq.symm I) an) _) _) ps) rs)).wrap e
end Go.Proofs.YtaekfgbfpfecdaaGreat.VM

