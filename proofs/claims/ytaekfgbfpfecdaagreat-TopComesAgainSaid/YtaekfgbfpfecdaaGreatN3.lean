/- Operations that turn the memory are sound; calls; no conditions but those that each theorem names. -/
import Derived.Orders
import Derived.Laws.AppendOwn
import Derived.Laws.BytesString
import Derived.Laws.Cells
import Derived.Test.YtaekfgbfpfecdaaGreatN2

/- One operation that only reckons or looks, as the machine has it and as the model has it; slots set; guards; no conditions but those that each theorem names. -/
namespace Go.Proofs.YtaekfgbfpfecdaaGreat.VM
open Go
set_option linter.unusedVariables false
set_option linter.unusedSimpArgs false
/-- The marks of calls put off that a frame bears. -/
class Df where
  l : List Deferred
variable {P : Program} [Df]
set_option linter.unusedSectionVars false

theorem force_eq (e : Nat) (k : Nat → Bool) : force e k = k e := rfl
theorem join_eq {α : Type} (f : α) (g : α → Bool) : join f g = g f := rfl
theorem forceAll_eq : ∀ (l : List (Bool × Nat)) (k : List Nat → Bool), forceAll l k = k (l.map (·.2))
  | [], k => rfl
  | (true, x) :: l, k => by simp only [forceAll, forceAll_eq l, List.map_cons]
  | (false, x) :: l, k => by simp only [forceAll, force_eq, forceAll_eq l, List.map_cons]
theorem ap_of : ∀ (n : Nat) (g : List Nat → Core → Bool) (l : List Nat) (c : Core), l.length = n → NF.ap n (NF.of n g) l c = g l c
  | 0, g, [], c, _ => rfl
  | n + 1, g, x :: l, c, h => by
    show NF.ap n (NF.of n (fun l c => g (x :: l) c)) l c = g (x :: l) c
    rw [ap_of n _ l c (by simpa using h)]

/-- What holds of a frame, of memory, of the world. -/
structure OK (nt : Nat) (G : Nat → Prop) (N : Nm) (lam : Nat → Nat) (env : Env) (lo : Lo) (c : Core) (a : Act) (w : World) : Prop where
  re : RE N lam env lo a w
  rel : Rel N c w
  pools : Pools N
  off : Off G N
  ing : In G w
  prot : ∀ i e, getA lo i = some e → ¬ G (lam i)
  nt : a.tmps.size = nt
  df : a.defers = Df.l
def After (nt : Nat) (G : Nat → Prop) (N : Nm) (w : World) (env : Env) (lo : Lo) (c : Core) (a' : Act) (w' : World) : Prop :=
  ∃ N' lam', Ext N N' ∧ OK nt G N' lam' env lo c a' w' ∧ Same G w w' ∧ w.heap.size ≤ w'.heap.size
theorem OK.after {nt : Nat} {G : Nat → Prop} {N : Nm} {lam : Nat → Nat} {env : Env} {lo : Lo} {c : Core} {a : Act} {w : World} (h : OK nt G N lam env lo c a w) : After nt G N w env lo c a w :=
  ⟨N, lam, Ext.refl N, h, Same.refl G w, Nat.le_refl _⟩
theorem After.trans {nt : Nat} {G : Nat → Prop} {N N' : Nm} {w w' w'' : World} {env : Env} {lo : Lo} {c : Core} {a : Act} (h1 : Ext N N') (h2 : Same G w w') (h3 : w.heap.size ≤ w'.heap.size)
    (h : After nt G N' w' env lo c a w'') : After nt G N w env lo c a w'' := by
  obtain ⟨N'', lam, e, o, s, l⟩ := h
  exact ⟨N'', lam, h1.trans e, o, h2.trans s, Nat.le_trans h3 l⟩

/-! ### Slots set -/
theorem noG_ok {d : Nat} : ∀ {env : Env}, noG d env = true → ∀ {i s : Nat} {w gb : Bool} {e : Ent}, getA env i = some (.g s w gb e) → s ≠ d
  | [], _, i, s, w, gb, e, h => by cases h
  | (a, x) :: l, hn, i, s, w, gb, e, h => by
    rw [getA_cons] at h
    split at h
    · subst h
      simp only [noG] at hn
      intro hs
      subst hs
      simp at hn
    · cases x with
      | none => exact noG_ok (by simpa only [noG] using hn) h
      | some y =>
        cases y with
        | g j w' gb' e' =>
          simp only [noG] at hn
          cases q : Nat.beq j d <;> rw [q] at hn
          · exact noG_ok (by simpa using hn) h
          · cases hn
        | _ => exact noG_ok (by simpa only [noG] using hn) h

structure SetTo (nt : Nat) (dst : Option Nat) (gd : Gd) (e : Ent) (env env' : Env) : Prop where
  none_ : dst = none → env' = env
  some_ : ∀ d, dst = some d → d < nt ∧ noG d env = true ∧ notSlot gd d = true ∧ ∃ e', env' = (d, some (gent gd e')) :: env ∧ (∀ N lam v, REnt N lam e v → REnt N lam e' v) ∧ ∀ s w g x, e' ≠ .g s w g x
theorem setK_def (nt : Nat) (forced : List Nat) (dst : Option Nat) (gd : Gd) (e : Ent) (env : Env) :
    (∀ k, setK nt forced dst gd e env k = false) ∨ ∃ env', (∀ k, setK nt forced dst gd e env k = k env') ∧ SetTo nt dst gd e env env' := by
  cases dst with
  | none => exact .inr ⟨env, fun _ => rfl, fun _ => rfl, fun d h => by cases h⟩
  | some d =>
    simp only [setK]
    cases q : (noG d env && Nat.blt d nt && notSlot gd d && notGE e)
    · exact .inl fun k => rfl
    · simp only [Bool.and_eq_true, blt_eq, decide_eq_true_eq] at q
      refine .inr ?_
      simp only [cond_true]
      split
      · next sh x =>
        refine ⟨_, fun k => force_eq _ _, ⟨(fun h => by cases h), fun d' h => ?_⟩⟩
        cases h
        exact ⟨q.1.1.2, q.1.1.1, q.1.2, _, rfl, fun N lam v hv => hv, fun s w g x => by simp⟩
      · refine ⟨_, fun k => rfl, ⟨(fun h => by cases h), fun d' h => ?_⟩⟩
        cases h
        exact ⟨q.1.1.2, q.1.1.1, q.1.2, _, rfl, fun N lam v hv => hv, fun s w g x h => by have := q.2; rw [h] at this; cases this⟩

theorem put_get {a : Act} {d i : Nat} {v : Value} : (a.put (some d) v).tmps[i]? = if d = i ∧ d < a.tmps.size then some v else a.tmps[i]? := by
  simp only [Act.put]
  rw [Array.getElem?_setIfInBounds]
  split
  · next h =>
    subst h
    split
    · next h2 => rw [if_pos ⟨rfl, h2⟩]
    · next h2 =>
      rw [if_neg (fun h => h2 h.2)]
      rw [Array.getElem?_eq_none (by omega)]
  · next h => rw [if_neg (fun h' => h h'.1)]

/-- A slot is set to a value that its entry stands for; what hangs on a guard counts where the guard holds. -/
theorem OK.set {nt : Nat} {G : Nat → Prop} {N : Nm} {lam : Nat → Nat} {env env' : Env} {lo : Lo} {c : Core} {a : Act} {w : World} (h : OK nt G N lam env lo c a w) {dst : Option Nat} {gd : Gd} {e : Ent}
    (hs : SetTo nt dst gd e env env') {v : Value} (hv : (∀ s w gb, gd = some (s, w, gb) → gb = true) → REnt N lam e v)
    (hg : ∀ s w gb, gd = some (s, w, gb) → ∃ es, getA env s = some es ∧ gval w es = some gb) (hu : ∀ s w, gd = some (s, w, false) → v = undef) : OK nt G N lam env' lo c (a.put dst v) w := by
  cases dst with
  | none => rw [hs.none_ rfl]; exact h
  | some d =>
    obtain ⟨h1, h2, h3, e', rfl, h4, h5⟩ := hs.some_ d rfl
    have hd : d < a.tmps.size := by rw [h.nt]; exact h1
    refine ⟨⟨?_, ?_, h.re.blk, h.re.itr, h.re.off, h.re.inj⟩, h.rel, h.pools, h.off, h.ing, h.prot, ?_, h.df⟩
    · intro i x hx
      rw [getA_cons] at hx
      rw [put_get]
      split at hx
      · next hi =>
        cases hx
        rw [if_pos ⟨hi, hd⟩]
        refine ⟨v, rfl, ?_⟩
        cases gd with
        | none => exact h4 _ _ _ (hv fun s w gb h => by cases h)
        | some swg =>
          obtain ⟨s, w', gb⟩ := swg
          simp only [gent, REnt]
          exact ⟨fun hgb => h4 _ _ _ (hv fun s w gb h => by cases h; exact hgb), fun hgb => by subst hgb; exact hu _ _ rfl⟩
      · next hi =>
        rw [if_neg (fun h => hi h.1)]
        exact h.re.slot i x hx
    · intro i s want gb x hx
      rw [getA_cons] at hx
      split at hx
      · next hi =>
        cases gd with
        | none =>
          exfalso
          injection hx with hx
          exact h5 _ _ _ _ hx
        | some swg =>
          obtain ⟨s', w', gb'⟩ := swg
          simp only [gent] at hx
          injection hx with hx
          injection hx with q1 q2 q3 q4
          subst q1 q2 q3 q4
          obtain ⟨es, k1, k2⟩ := hg _ _ _ rfl
          refine ⟨⟨es, ?_, k2⟩, h5⟩
          rw [getA_cons, if_neg ?_]
          · exact k1
          · intro hds
            simp only [notSlot, notB_eq, Bool.not_eq_true'] at h3
            subst hds
            simp at h3
      · obtain ⟨⟨es, k1, k2⟩, k4⟩ := h.re.grd i s want gb x hx
        refine ⟨⟨es, ?_, k2⟩, k4⟩
        rw [getA_cons, if_neg (Ne.symm (noG_ok h2 hx))]
        exact k1
    · simp [Act.put, h.nt]

/-! ### Guards -/
theorem nthO_eq : ∀ (i : Nat) (l : List Oper), nthO i l = l[i]?
  | 0, [] => rfl
  | 0, x :: l => rfl
  | i + 1, [] => rfl
  | i + 1, x :: l => by simp [nthO, nthO_eq i l]
theorem gval_plain {want : Bool} {e : Ent} {gb : Bool} (h : gval want e = some gb) (hn : ∀ s w g x, e ≠ .g s w g x) : ∃ c, asB e = some c ∧ gb = gOf want c := by
  unfold gval at h
  split at h
  · exact absurd rfl (hn _ _ _ _)
  · cases q : asB e with
    | none => rw [q] at h; cases h
    | some c => rw [q] at h; cases h; exact ⟨c, rfl, rfl⟩
theorem gval_g {want : Bool} {s : Nat} {w g : Bool} {e : Ent} {gb : Bool} (h : gval want (.g s w g e) = some gb) : ∃ c, asB e = some c ∧ gb = cond g (gOf want c) false := by
  simp only [gval] at h
  cases q : asB e with
  | none => rw [q] at h; cases h
  | some c => rw [q] at h; cases h; exact ⟨c, rfl, rfl⟩
def boolOf : Value → Option Bool
  | .bool b => some b
  | _ => none
/-- What a guard's slot tells. -/
theorem gval_ok {N : Nm} {lam : Nat → Nat} {want : Bool} {e : Ent} {gb : Bool} {v : Value} (h : gval want e = some gb) (hv : REnt N lam e v) : (boolOf v == some want) = gb := by
  by_cases hg : ∃ s w g x, e = .g s w g x
  · obtain ⟨s, w, g, x, rfl⟩ := hg
    obtain ⟨c, h1, rfl⟩ := gval_g h
    simp only [REnt] at hv
    cases g with
    | true =>
      have := asB_ok h1 (hv.1 rfl)
      subst this
      cases c <;> cases want <;> rfl
    | false =>
      have := hv.2 rfl
      subst this
      rfl
  · obtain ⟨c, h1, rfl⟩ := gval_plain h fun s w g x e => hg ⟨s, w, g, x, e⟩
    have := asB_ok h1 hv
    subst this
    cases c <;> cases want <;> rfl
theorem guard_wanted {N : Nm} {lam : Nat → Nat} {env : Env} {lo : Lo} {a : Act} {w : World} (hE : RE N lam env lo a w) {ops : Array Oper} {o : Oper} {gd : Gd} (h : guardOf ops.toList env o = some gd) :
    Region.wanted o (yielded ops a.tmps) = (match gd with | none => true | some (_, _, gb) => gb) ∧ ∀ s w gb, gd = some (s, w, gb) → ∃ es, getA env s = some es ∧ gval w es = some gb := by
  unfold guardOf at h
  cases hg : o.guard with
  | none =>
    rw [hg] at h; cases h
    exact ⟨by simp [Region.wanted, hg], fun s w gb h => by cases h⟩
  | some jw =>
    obtain ⟨j, want⟩ := jw
    rw [hg] at h
    simp only at h
    cases hj : nthO j ops.toList with
    | none => rw [hj] at h; cases h
    | some oj =>
    rw [hj] at h
    simp only at h
    cases hd : oj.dst with
    | none => rw [hd] at h; cases h
    | some s =>
    rw [hd] at h
    simp only at h
    cases he : getA env s with
    | none => rw [he] at h; cases h
    | some e =>
    rw [he] at h
    simp only at h
    cases hb : gval want e with
    | none => rw [hb] at h; cases h
    | some gb =>
    rw [hb] at h
    cases h
    obtain ⟨v, hv, hr⟩ := hE.slot s e he
    have hoj : ops[j]? = some oj := by rw [nthO_eq] at hj; simpa using hj
    have hy : yielded ops a.tmps j = boolOf v := by
      simp only [yielded, hoj, Option.bind_some, hd, hv]
      cases v <;> rfl
    refine ⟨?_, fun s' w' gb' hh => ?_⟩
    · simp only [Region.wanted, hg, hy]
      exact gval_ok hb hr
    · cases hh
      exact ⟨e, he, hb⟩
theorem getA_unlock (s : Nat) (want : Bool) : ∀ (env : Env) (i : Nat), getA (unlock s want env) i = match getA env i with
    | some (.g j w gb e) => some (cond (Nat.beq j s && eqB w want) e (.g j w gb e))
    | x => x
  | [], i => rfl
  | (a, x) :: l, i => by
    cases x with
    | none =>
      simp only [unlock, getA_cons]
      split
      · rfl
      · exact getA_unlock s want l i
    | some y =>
      cases y with
      | g j w gb e =>
        simp only [unlock, getA_cons]
        split
        · rfl
        · exact getA_unlock s want l i
      | _ =>
        simp only [unlock, getA_cons]
        split
        · rfl
        · exact getA_unlock s want l i
theorem RE.unlock {N : Nm} {lam : Nat → Nat} {env : Env} {lo : Lo} {a : Act} {w : World} (hE : RE N lam env lo a w) {s : Nat} {want : Bool}
    (hs : ∃ es, getA env s = some es ∧ gval want es = some true) : RE N lam (unlock s want env) lo a w := by
  obtain ⟨es, k1, k2⟩ := hs
  have key : ∀ {i j : Nat} {w' gb : Bool} {e : Ent}, getA env i = some (.g j w' gb e) → (Nat.beq j s && eqB w' want) = true → gb = true := by
    intro i j w' gb e hg q
    rw [Bool.and_eq_true] at q
    have hj := Nat.eq_of_beq_eq_true q.1
    subst hj
    have hw : w' = want := by
      have := q.2
      cases w' <;> cases want <;> simp_all [eqB, notB]
    subst hw
    obtain ⟨⟨es', m1, m2⟩, _⟩ := hE.grd _ _ _ _ _ hg
    rw [k1] at m1
    cases m1
    rw [k2] at m2
    cases m2
    rfl
  refine ⟨?_, ?_, hE.blk, hE.itr, hE.off, hE.inj⟩
  · intro i x hx
    rw [getA_unlock] at hx
    split at hx
    · next j w' gb e hg =>
      cases q : (Nat.beq j s && eqB w' want) <;> rw [q] at hx
      · cases hx
        exact hE.slot i _ hg
      · cases hx
        obtain ⟨v, h1, h2⟩ := hE.slot i _ hg
        refine ⟨v, h1, ?_⟩
        simp only [REnt] at h2
        exact h2.1 (key hg q)
    · exact hE.slot i x hx
  · intro i s' want' gb e hx
    rw [getA_unlock] at hx
    split at hx
    · next j w' gb' e' hg =>
      cases q : (Nat.beq j s && eqB w' want) <;> rw [q] at hx
      · cases hx
        obtain ⟨⟨es', m1, m2⟩, m4⟩ := hE.grd _ _ _ _ _ hg
        refine ⟨?_, m4⟩
        by_cases hes : ∃ s w g x, es' = .g s w g x
        · obtain ⟨s2, w2, g2, x2, rfl⟩ := hes
          have hgu := getA_unlock s want env s'
          rw [m1] at hgu
          simp only at hgu
          cases q2 : (Nat.beq s2 s && eqB w2 want) with
          | false => exact ⟨_, by rw [hgu, q2]; rfl, m2⟩
          | true =>
            have hg2 := key m1 q2
            subst hg2
            refine ⟨x2, by rw [hgu, q2]; rfl, ?_⟩
            obtain ⟨c, h1, h2⟩ := gval_g m2
            have hng : ∀ s w g x, x2 ≠ .g s w g x := (hE.grd _ _ _ _ _ m1).2
            simp only [cond_true] at h2
            subst h2
            unfold gval
            split
            · exact absurd rfl (hng _ _ _ _)
            · rw [h1]
        · refine ⟨es', ?_, m2⟩
          rw [getA_unlock, m1]
          cases es' <;> first | rfl | exact absurd ⟨_, _, _, _, rfl⟩ hes
      · cases hx
        exact absurd rfl ((hE.grd _ _ _ _ _ hg).2 _ _ _ _)
    · next x hng =>
      exact absurd hx (hng _ _ _ _)
end Go.Proofs.YtaekfgbfpfecdaaGreat.VM

/- Operations that reckon or look; stores; as the machine has them and as the model has them; no conditions but those that each theorem names. -/
namespace Go.Proofs.YtaekfgbfpfecdaaGreat.VM
open Go
set_option linter.unusedVariables false
set_option linter.unusedSimpArgs false
variable {P : Program} [Df]
set_option linter.unusedSectionVars false

def Def3 (F : (Env → Lo → Core → Bool) → Bool) (R : Env → Lo → Core → Prop) : Prop := (∀ k, F k = false) ∨ ∃ env lo c, R env lo c ∧ ∀ k, F k = k env lo c
/-- One operation of a region, from here to there. -/
def Sound1 (P : Program) (ops : Array Oper) (i nt : Nat) (env : Env) (lo : Lo) (c : Core) (env' : Env) (lo' : Lo) (c' : Core) : Prop :=
  ∀ G N lam a w, OK nt G N lam env lo c a w → ∀ (K : Act → World → Prop) (Q : Exit → Act → World → Prop), (∀ a' w', After nt G N w env' lo' c' a' w' → K a' w') → wpOp P ops Q i K a w

theorem chkK_false {chk : Option Bool} {k : Bool} (h : ∃ b, chk = some b ∧ b = false) : chkK chk k = false := by
  obtain ⟨b, rfl, rfl⟩ := h; rfl
theorem chk_cases (chk : Option Bool) : (∀ b, chk = some b → b = true) ∨ ∃ b, chk = some b ∧ b = false := by
  cases chk with
  | none => exact .inl fun b h => by cases h
  | some b => cases b
              · exact .inr ⟨false, rfl, rfl⟩
              · exact .inl fun b h => by cases h; rfl
theorem chkK_true {chk : Option Bool} {k : Bool} (h : ∀ b, chk = some b → b = true) : chkK chk k = k := by
  cases chk with
  | none => rfl
  | some b => have := h b rfl; subst this; rfl

theorem OK.genv {nt : Nat} {G : Nat → Prop} {N : Nm} {lam : Nat → Nat} {env : Env} {lo : Lo} {c : Core} {a : Act} {w : World} (h : OK nt G N lam env lo c a w) {gd : Gd}
    (hg : ∀ s w gb, gd = some (s, w, gb) → ∃ es, getA env s = some es ∧ gval w es = some gb) (ht : ∀ s w gb, gd = some (s, w, gb) → gb = true) : RE N lam (genv gd env) lo a w := by
  cases gd with
  | none => exact h.re
  | some swg =>
    obtain ⟨s, w', gb⟩ := swg
    obtain ⟨es, k1, k2⟩ := hg _ _ _ rfl
    have := ht _ _ _ rfl
    subst this
    exact h.re.unlock ⟨es, k1, k2⟩

theorem light_ok (hF : Facts P) {ops : Array Oper} {i : Nat} {o : Oper} (ho : ops[i]? = some o) {nt : Nat} {forced : List Nat} {env : Env} {lo : Lo} {c : Core} {gd : Gd} (hgd : guardOf ops.toList env o = some gd)
    {chk : Option Bool} {e : Ent} (hs : sem o (genv gd env) lo c = some (chk, e)) :
    Def3 (fun k => chkK (gchk gd chk) (setK nt forced o.dst gd e env (fun env => k env lo c))) (Sound1 P ops i nt env lo c) := by
  rcases chk_cases (gchk gd chk) with hc | hc
  · rcases setK_def nt forced o.dst gd e env with hd | ⟨env', hd, hset⟩
    · exact .inl fun k => (chkK_true hc).trans (hd _)
    · refine .inr ⟨env', lo, c, ?_, fun k => (chkK_true hc).trans (hd _)⟩
      intro G N lam a w hok K Q hK
      obtain ⟨hw, hg⟩ := guard_wanted hok.re hgd
      unfold wpOp
      simp only [ho, hw]
      have main : (∀ s w gb, gd = some (s, w, gb) → gb = true) → o.wp P a w K Q := by
        intro ht
        have hc' : ∀ b, chk = some b → b = true := by
          intro b hb
          subst hb
          cases gd with
          | none => exact hc _ rfl
          | some swg =>
            obtain ⟨s, w', gb⟩ := swg
            have h1 := hc _ rfl
            have h2 := ht _ _ _ rfl
            subst h2
            exact h1
        obtain ⟨v, hr, hv⟩ := sem_ok hF hok.pools hok.rel (hok.genv hg ht) hs hc'
        unfold Oper.wp
        rw [hr]
        exact hK _ _ (hok.set hset (fun _ => hv) hg (fun s w h => by have := ht _ _ _ h; cases this)).after
      cases gd with
      | none => simp only [if_true]; exact .inl (main fun s w gb h => by cases h)
      | some swg =>
        obtain ⟨s, w', gb⟩ := swg
        cases gb with
        | true => simp only [if_true]; exact .inl (main fun s w gb h => by cases h; rfl)
        | false =>
          simp only [Bool.false_eq_true, if_false]
          exact hK _ _ (hok.set hset (fun h => by have := h _ _ _ rfl; cases this) hg (fun _ _ _ => rfl)).after
  · exact .inl fun k => chkK_false hc

/-! ### Stores -/
theorem wrK_eq (m p n y : Nat) (k : Nat → Bool) : wrK m p n y k = k (wrv m p n y) := rfl
theorem RE.world {N : Nm} {lam : Nat → Nat} {env : Env} {lo : Lo} {a : Act} {w w' : World} (h : RE N lam env lo a w) (hs : ∀ i e, getA lo i = some e → w'.heap[lam i]? = w.heap[lam i]?) : RE N lam env lo a w' := by
  refine ⟨h.slot, h.grd, ?_, ?_, h.off, h.inj⟩
  · intro i l x hi; rw [hs i _ hi]; exact h.blk i l x hi
  · intro i q p hi
    rw [hs i _ hi]; exact h.itr i q p hi
/-- The blocks that are not to be touched: the caller's, and the frame's own. -/
def Gl (G : Nat → Prop) (lam : Nat → Nat) (lo : Lo) (g : Nat) : Prop := G g ∨ ∃ i e, getA lo i = some e ∧ g = lam i
theorem OK.off' {nt : Nat} {G : Nat → Prop} {N : Nm} {lam : Nat → Nat} {env : Env} {lo : Lo} {c : Core} {a : Act} {w : World} (h : OK nt G N lam env lo c a w) : Off (Gl G lam lo) N := by
  intro g b o k mo sp hg hb
  rcases hg with hg | ⟨i, e, hi, rfl⟩
  · exact h.off g b o k mo sp hg hb
  · exact h.re.off i e hi b _ o k mo sp hb rfl

theorem storeHeap_ok (hF : Facts P) {ops : Array Oper} {i : Nat} {o : Oper} (ho : ops[i]? = some o) (hgd : o.guard = none) {t : TypeId} {p v : Operand} (hop : o.op = .store t p v) (hdst : o.dst = none)
    {nt : Nat} {env : Env} {lo : Lo} {c : Core} {l : List K} {mo nn fl : Bool} {x : Nat} (hep : evO env p = some (.n (.ptr l mo nn) fl x)) {ev : Ent} (hev : evO env v = some ev)
    (hsz : (ty t).size = l.length) (hl : 0 < l.length) {y : Nat} (hy : toLay l (ty t).desc.isRow ev = some y) (hc : ∀ b, ptrChk c.d mo nn x l.length = some b → b = true) :
    Sound1 P ops i nt env lo c env lo ⟨wrv c.m x l.length y, c.t, c.s, c.d⟩ := by
  intro G N lam a w hok K Q hK
  have hvp := evO_ok hok.pools hok.re hep
  have hvv := evO_ok hok.pools hok.re hev
  simp only [REnt, RSh] at hvp
  obtain ⟨hx0, hal⟩ := ptrChk_ok hc hvp.2.2
  obtain ⟨y1, y2, _⟩ := toLay_ok hy hvv
  obtain ⟨hi, _⟩ := hF.size t (by omega)
  rw [hsz] at hi
  obtain ⟨w', hr, hrel, hsame, hsize⟩ := store_ptr (P := P) cst_one hok.rel hvp.2.1 hx0 hl hal hi y1 y2 hok.off'
  unfold wpOp
  simp only [ho, Region.wanted, hgd, if_true]
  refine .inl ?_
  unfold Oper.wp execOp
  simp only [hop, Sem.run_bind, hr, Result.andThen_ok, Sem.run_pure, Oper.upon, hdst, Act.put]
  refine hK _ _ ⟨N, lam, Ext.refl N, ⟨hok.re.world fun j e hj => hsame.2 _ (.inr ⟨j, e, hj, rfl⟩), hrel, hok.pools, hok.off, hok.ing.le (Nat.le_of_eq hsize.symm), hok.prot, hok.nt, hok.df⟩, ⟨hsame.1, fun g hg => hsame.2 g (.inl hg)⟩, Nat.le_of_eq hsize.symm⟩
end Go.Proofs.YtaekfgbfpfecdaaGreat.VM

/- A frame's own variables: stored into, made; as the machine has it and as the model has it; no conditions but those that each theorem names. -/
namespace Go.Proofs.YtaekfgbfpfecdaaGreat.VM
open Go
set_option linter.unusedVariables false
set_option linter.unusedSimpArgs false
variable {P : Program} [Df]
set_option linter.unusedSectionVars false

theorem lane_putN {y o n z : Nat} (hz : z < 2 ^ (64 * n)) (j : Nat) : lane (putN y o n z) j = if o ≤ j ∧ j < o + n then lane z (j - o) else lane y j := by
  apply Nat.eq_of_testBit_eq
  intro i
  rw [testBit_lane]
  by_cases hi : i < 64
  · rw [putN, shl6, testBit_xor', testBit_shl', testBit_xor', testBit_rd]
    by_cases h1 : o ≤ j
    · have h2 : 64 * j + i - 64 * o = 64 * (j - o) + i := by omega
      have h3 : 64 * o + (64 * (j - o) + i) = 64 * j + i := by omega
      have h4 : 64 * o ≤ 64 * j + i := by omega
      rw [h2, h3]
      by_cases h5 : j < o + n
      · have h6 : 64 * (j - o) + i < 64 * n := by omega
        simp [h1, h5, hi, h6, h4, testBit_lane]
      · have h6 : ¬ 64 * (j - o) + i < 64 * n := by omega
        simp [h5, hi, h6, testBit_lane, testBit_lt hz (i := 64 * (j - o) + i) (by omega)]
    · have h4 : ¬ 64 * o ≤ 64 * j + i := by omega
      simp [h1, h4, hi, testBit_lane]
  · split <;> simp [hi, testBit_lane]
theorem putN_lt {y o n z m : Nat} (hy : y < 2 ^ (64 * m)) (hz : z < 2 ^ (64 * n)) (h : o + n ≤ m) : putN y o n z < 2 ^ (64 * m) := by
  have hd : Nat.xor (rd y (64 * o) n) z < 2 ^ (64 * n) := Nat.xor_lt_two_pow (rd_lt _ _ _) hz
  have hs : Nat.shiftLeft (Nat.xor (rd y (64 * o) n) z) (64 * o) < 2 ^ (64 * m) := by
    have : Nat.shiftLeft (Nat.xor (rd y (64 * o) n) z) (64 * o) = (Nat.xor (rd y (64 * o) n) z) * 2 ^ (64 * o) := Nat.shiftLeft_eq _ _
    rw [this]
    calc _ < 2 ^ (64 * n) * 2 ^ (64 * o) := Nat.mul_lt_mul_of_pos_right hd (Nat.two_pow_pos _)
      _ = 2 ^ (64 * n + 64 * o) := (Nat.pow_add _ _ _).symm
      _ ≤ _ := Nat.pow_le_pow_right (by omega) (by omega)
  rw [putN, shl6]
  exact Nat.xor_lt_two_pow hy hs
theorem partSet_ok {L : List K} {y o n z : Nat} (hy : y < 2 ^ (64 * L.length)) (hz : z < 2 ^ (64 * n)) (h : o + n ≤ L.length) :
    partSet L y o n z < 2 ^ (64 * L.length) ∧ ∀ j, j < L.length → lane (partSet L y o n z) j = if o ≤ j ∧ j < o + n then lane z (j - o) else lane y j := by
  unfold partSet
  cases q : (Nat.beq o 0 && Nat.beq n (lenK L))
  · exact ⟨putN_lt hy hz h, fun j _ => lane_putN hz j⟩
  · simp only [Bool.and_eq_true] at q
    have h1 := Nat.eq_of_beq_eq_true q.1
    have h2 := Nat.eq_of_beq_eq_true q.2
    rw [lenK_eq] at h2
    subst h1 h2
    refine ⟨hz, fun j hj => ?_⟩
    simp [hj]

theorem Rel.keep {N : Nm} {c : Core} {w w' : World} (h : Rel N c w) (hs : ∀ a g o k mo sp, N.ln a = some (.cell g o k mo sp) → w'.heap[g]? = w.heap[g]?) : Rel N c w' := by
  refine ⟨?_, h.inj, h.spare, h.dead, h.top, h.mlt, h.tl, h.str, h.spos⟩
  intro a g o k mo sp ha
  rw [hs a g o k mo sp ha]
  exact h.cell a g o k mo sp ha

theorem locOf_get {lo : Lo} {i : Nat} {L : List K} {y : Nat} (h : locOf lo i = some (L, y)) : getA lo i = some (.blk L y) := by
  unfold locOf at h
  split at h
  · next hq => cases h; exact hq
  · cases h

theorem storeLoc_ok (hF : Facts P) {ops : Array Oper} {i : Nat} {o : Oper} (ho : ops[i]? = some o) (hgd : o.guard = none) {t : TypeId} {p v : Operand} (hop : o.op = .store t p v) (hdst : o.dst = none)
    {nt : Nat} {env : Env} {lo : Lo} {c : Core} {l : List K} {q off : Nat} (hep : evO env p = some (.lp q l off)) {ev : Ent} (hev : evO env v = some ev)
    (hsz : (ty t).size = l.length) (hl : 0 < l.length) {L : List K} {Y : Nat} (hloc : locOf lo q = some (L, Y)) (hlL : l = (L.drop off).take l.length) {y : Nat} (hy : toLay l (ty t).desc.isRow ev = some y) :
    Sound1 P ops i nt env lo c env ((q, some (.blk L (partSet L Y off l.length y))) :: lo) c := by
  intro G N lam a w hok K Q hK
  have hvp := evO_ok hok.pools hok.re hep
  have hvv := evO_ok hok.pools hok.re hev
  simp only [REnt] at hvp
  obtain ⟨y1, y2, _⟩ := toLay_ok hy hvv
  obtain ⟨hi, _⟩ := hF.size t (by omega)
  rw [hsz] at hi
  have hg := locOf_get hloc
  obtain ⟨arr, ty', hw, hY, hrl⟩ := hok.re.blk _ _ _ hg
  have hoL : off + l.length ≤ L.length := by
    have := congrArg List.length hlL
    simp at this
    omega
  have harr : arr.size = L.length := hrl.1
  obtain ⟨w', hr, hwr⟩ := store_cells (P := P) (lam q) off (a.eval v).cells.toList 0 w arr ty' hw (by have := y2.1; omega) (by
    intro z hz
    obtain ⟨j, hj, rfl⟩ := List.mem_iff_getElem.1 hz
    exact (y2.2 j (by have := y2.1; omega) hj).oneCell cst_one)
  have hwr' : Wrote w w' (lam q) off (a.eval v).cells.toList := hwr
  have hst : (Instr.storeAt t (.pointer (some ⟨lam q, off, none⟩)) (a.eval v)).run P w = .ok () w' := by
    cases hq : P.info? t with
    | none => simp [hq] at hi
    | some inf =>
      have hs : inf.size = l.length := by simpa [hq] using hi
      have hs2 : (a.eval v).cells.size = inf.size := by
        have : (a.eval v).cells.toList.length = (a.eval v).cells.size := rfl
        have := y2.1
        omega
      simp [Instr.storeAt, Instr.sureAddr, storeVar, sizeOf, typeInfo, hq, hs2, hr]
  unfold wpOp
  simp only [ho, Region.wanted, hgd, if_true]
  refine .inl ?_
  unfold Oper.wp execOp
  simp only [hop, hvp, Sem.run_bind, hst, Result.andThen_ok, Sem.run_pure, Oper.upon, hdst, Act.put]
  obtain ⟨p1, p2⟩ := partSet_ok hY y1 hoL
  have hother : ∀ g, g ≠ lam q → w'.heap[g]? = w.heap[g]? := hwr'.other
  have hne : ∀ j e, getA lo j = some e → j ≠ q → lam j ≠ lam q := fun j e hj hjq he => hjq (hok.re.inj j q e _ hj hg he)
  refine hK _ _ ⟨N, lam, Ext.refl N, ⟨⟨hok.re.slot, hok.re.grd, ?_, ?_, ?_, ?_⟩, hok.rel.keep fun b g o k mo sp hb => hother g (hok.re.off q _ hg b g o k mo sp hb), hok.pools, hok.off, hok.ing.le (Nat.le_of_eq hwr'.size.symm), ?_, hok.nt, hok.df⟩,
    ⟨hwr.out, fun g hgG => hother g fun e => hok.prot q _ hg (e ▸ hgG)⟩, Nat.le_of_eq hwr'.size.symm⟩
  · intro j l2 x2 hj
    rw [getA_cons] at hj
    split at hj
    · next hqj =>
      subst hqj
      cases hj
      obtain ⟨arr', e1, e2, e3, e4⟩ := hwr'.here _ _ _ hw
      refine ⟨arr', ty', e1, p1, ?_⟩
      have hvl := y2.1
      refine ⟨by rw [Array.length_toList, e2, harr], fun j hj hj' => ?_⟩
      rw [p2 j hj]
      have hga : ∀ u, arr'[j]? = some u → arr'.toList[j] = u := by
        intro u hu
        rw [← Array.getElem?_toList, List.getElem?_eq_getElem hj'] at hu
        exact Option.some.inj hu
      by_cases hin : off ≤ j ∧ j < off + l.length
      · rw [if_pos hin]
        have hjv : j - off < (a.eval v).cells.toList.length := by omega
        have := e3 (j - off) _ (List.getElem?_eq_getElem hjv) (by omega)
        rw [show off + (j - off) = j by omega] at this
        rw [hga _ this]
        have h7 := y2.2 (j - off) (by omega) hjv
        have hk : l[j - off]'(by omega) = L[j] := by
          have h8 : l[j - off]? = L[j]? := by
            rw [hlL, List.getElem?_take_of_lt (by omega), List.getElem?_drop, show off + (j - off) = j by omega]
          rw [List.getElem?_eq_getElem (by omega), List.getElem?_eq_getElem hj] at h8
          exact Option.some.inj h8
        rw [hk] at h7
        exact h7
      · rw [if_neg hin]
        have h9 := e4 j (by omega)
        have hja : j < arr.toList.length := by rw [Array.length_toList, harr]; exact hj
        have h10 : arr[j]? = some arr.toList[j] := by rw [← Array.getElem?_toList, List.getElem?_eq_getElem hja]
        rw [h10] at h9
        rw [hga _ h9]
        exact hrl.2 j hj hja
    · next hqj =>
      rw [hother _ (hne j _ hj (Ne.symm hqj))]
      exact hok.re.blk j l2 x2 hj
  · intro j h2 p2' hj
    rw [getA_cons] at hj
    split at hj
    · cases hj
    · next hqj =>
      rw [hother _ (hne j _ hj (Ne.symm hqj))]
      exact hok.re.itr j h2 p2' hj
  · intro j e hj
    rw [getA_cons] at hj
    split at hj
    · next hqj => subst hqj; exact hok.re.off _ _ hg
    · exact hok.re.off j e hj
  · intro j j' e e' hj hj' he
    rw [getA_cons] at hj hj'
    have h1 : ∃ e, getA lo j = some e := by
      split at hj
      · next h => subst h; exact ⟨_, hg⟩
      · exact ⟨_, hj⟩
    have h2 : ∃ e, getA lo j' = some e := by
      split at hj'
      · next h => subst h; exact ⟨_, hg⟩
      · exact ⟨_, hj'⟩
    obtain ⟨e1, h1⟩ := h1
    obtain ⟨e2, h2⟩ := h2
    exact hok.re.inj _ _ _ _ h1 h2 he
  · intro j e hj
    rw [getA_cons] at hj
    split at hj
    · next hqj => subst hqj; exact hok.prot _ _ hg
    · exact hok.prot j e hj
end Go.Proofs.YtaekfgbfpfecdaaGreat.VM

/- New blocks: a frame's own, and in memory; as the machine has them and as the model has them; no conditions but those that each theorem names. -/
namespace Go.Proofs.YtaekfgbfpfecdaaGreat.VM
open Go
set_option linter.unusedVariables false
set_option linter.unusedSimpArgs false
variable {P : Program} [Df]
set_option linter.unusedSectionVars false

def upd (lam : Nat → Nat) (d g : Nat) : Nat → Nat := fun i => if i = d then g else lam i
theorem flatE_ok {N : Nm} {lam lam' : Nat → Nat} : ∀ {l : List Ent} {vs : List Value}, flatE l = true → REnts N lam l vs → REnts N lam' l vs
  | [], _, _, r => by simpa only [REnts] using r
  | e :: l, _, h, r => by
    simp only [REnts] at r ⊢
    obtain ⟨v, t, h1, h2, h3⟩ := r
    cases e <;> simp only [flatE, Bool.false_eq_true] at h
    case n => exact ⟨v, t, h1, by simpa only [REnt] using h2, flatE_ok h h3⟩
    case b => exact ⟨v, t, h1, by simpa only [REnt] using h2, flatE_ok h h3⟩
    case c => exact ⟨v, t, h1, by simpa only [REnt] using h2, flatE_ok h h3⟩
    case z => exact ⟨v, t, h1, by simpa only [REnt] using h2, flatE_ok h h3⟩
theorem noL_ok {N : Nm} {lam : Nat → Nat} {d g : Nat} : ∀ {env : Env}, noL d env = true → ∀ {i : Nat} {e : Ent} {v : Value}, getA env i = some e → REnt N lam e v → REnt N (upd lam d g) e v
  | [], _, i, e, v, h, _ => by cases h
  | (a, x) :: l, hn, i, e, v, h, hr => by
    rw [getA_cons] at h
    have hne : ∀ j, (cond (Nat.beq j d) false (noL d l)) = true → j ≠ d ∧ noL d l = true := by
      intro j hj
      cases q : Nat.beq j d <;> rw [q] at hj
      · exact ⟨fun e => by rw [e] at q; simp at q, hj⟩
      · cases hj
    split at h
    · subst h
      cases e with
      | n => simpa only [REnt] using hr
      | b => simpa only [REnt] using hr
      | c => simpa only [REnt] using hr
      | z => simpa only [REnt] using hr
      | tup t =>
        simp only [noL] at hn
        obtain ⟨h1, h2⟩ := condT hn
        simp only [REnt] at hr ⊢
        obtain ⟨vs, e1, e2⟩ := hr
        exact ⟨vs, e1, flatE_ok h1 e2⟩
      | lp j t o => simp only [noL] at hn; simp only [REnt, upd] at hr ⊢; rw [if_neg (hne j hn).1]; exact hr
      | ls j t => simp only [noL] at hn; simp only [REnt, upd] at hr ⊢; rw [if_neg (hne j hn).1]; exact hr
      | it j => simp only [noL] at hn; simp only [REnt, upd] at hr ⊢; rw [if_neg (hne j hn).1]; exact hr
      | g => simp only [noL, Bool.false_eq_true] at hn
    · cases x with
      | none => exact noL_ok (by simpa only [noL] using hn) h hr
      | some y =>
        cases y with
        | lp j t o => simp only [noL] at hn; exact noL_ok (hne j hn).2 h hr
        | ls j t => simp only [noL] at hn; exact noL_ok (hne j hn).2 h hr
        | it j => simp only [noL] at hn; exact noL_ok (hne j hn).2 h hr
        | g => simp only [noL, Bool.false_eq_true] at hn
        | tup t => simp only [noL] at hn; exact noL_ok (condT hn).2 h hr
        | _ => exact noL_ok (by simpa only [noL] using hn) h hr
theorem noLo_ok {d : Nat} {lo : Lo} (h : noLo d lo = true) : getA lo d = none := by
  unfold noLo at h
  split at h
  · next q => exact q
  · cases h

theorem push_get {w w' : World} {ob : Obj} (hw : w'.heap = w.heap.push ob) : w'.heap[w.heap.size]? = some ob ∧ (∀ g, g < w.heap.size → w'.heap[g]? = w.heap[g]?) ∧ w'.heap.size = w.heap.size + 1 := by
  rw [hw]
  refine ⟨by simp, fun g hg => ?_, by simp⟩
  rw [Array.getElem?_push]
  simp [Nat.ne_of_lt hg]

theorem RE.lt {N : Nm} {lam : Nat → Nat} {env : Env} {lo : Lo} {a : Act} {w : World} (h : RE N lam env lo a w) {i : Nat} {e : LoE} (hi : getA lo i = some e) : lam i < w.heap.size := by
  cases e with
  | blk l x =>
    obtain ⟨arr, ty, hw, _⟩ := h.blk i l x hi
    exact (Array.getElem?_eq_some_iff.1 hw).1
  | itr q p =>
    obtain ⟨bs, _, hw⟩ := h.itr i q p hi
    exact (Array.getElem?_eq_some_iff.1 hw).1

/-- A new block of the frame's own. -/
theorem OK.newLoc {nt : Nat} {G : Nat → Prop} {N : Nm} {lam : Nat → Nat} {env : Env} {lo : Lo} {c : Core} {a : Act} {w w' : World} (h : OK nt G N lam env lo c a w) {ob : Obj} (hw : w'.heap = w.heap.push ob) {d : Nat}
    (hd : (noLo d lo && noL d env && noG d env && Nat.blt d nt) = true) {b : LoE} (hb : (∀ l x, b = .blk l x → ∃ arr ty, ob = .cells arr ty (0, 0) ∧ x < 2 ^ (64 * l.length) ∧ RL N l x arr.toList) ∧
      (∀ q p, b = .itr q p → ∃ bs, (StrAt N q bs ∧ p ≤ bs.length) ∧ ob = .stringIter ⟨bs.toArray⟩ p)) {e : Ent} (heg : ∀ s w g x, e ≠ .g s w g x) {v : Value} (hv : REnt N (upd lam d w.heap.size) e v) (ho : w'.os = w.os ∧ w'.output = w.output) :
    After nt G N w ((d, some e) :: env) ((d, some b) :: lo) c (a.put (some d) v) w' := by
  simp only [Bool.and_eq_true, blt_eq, decide_eq_true_eq] at hd
  obtain ⟨⟨⟨h1, h2⟩, h3⟩, h4⟩ := hd
  have h1 := noLo_ok h1
  obtain ⟨g1, g2, g3⟩ := push_get hw
  have hdlt : d < a.tmps.size := by rw [h.nt]; exact h4
  have hcell : ∀ b g o k mo sp, N.ln b = some (.cell g o k mo sp) → g < w.heap.size := by
    intro b g o k mo sp hb
    obtain ⟨arr, ty, v, hw', _⟩ := h.rel.cell b g o k mo sp hb
    exact (Array.getElem?_eq_some_iff.1 hw').1
  have hu : ∀ i, i ≠ d → upd lam d w.heap.size i = lam i := fun i hi => by simp [upd, hi]
  have hud : upd lam d w.heap.size d = w.heap.size := by simp [upd]
  refine ⟨N, upd lam d w.heap.size, Ext.refl N, ⟨⟨?_, ?_, ?_, ?_, ?_, ?_⟩, h.rel.keep fun b g o k mo sp hb => g2 g (hcell b g o k mo sp hb), h.pools, h.off, h.ing.le (by omega), ?_, by simp [Act.put, h.nt], h.df⟩, ⟨ho, fun g hg => g2 g (h.ing g hg)⟩, by omega⟩
  · intro i x hx
    rw [getA_cons] at hx
    rw [put_get]
    split at hx
    · next hi => cases hx; rw [if_pos ⟨hi, hdlt⟩]; exact ⟨v, rfl, hv⟩
    · next hi =>
      rw [if_neg (fun h => hi h.1)]
      obtain ⟨u, q1, q2⟩ := h.re.slot i x hx
      exact ⟨u, q1, noL_ok h2 hx q2⟩
  · intro i s want gb x hx
    rw [getA_cons] at hx
    split at hx
    · cases hx; exact absurd rfl (heg _ _ _ _)
    · obtain ⟨⟨es, k1, k2⟩, k4⟩ := h.re.grd i s want gb x hx
      refine ⟨⟨es, ?_, k2⟩, k4⟩
      rw [getA_cons, if_neg (Ne.symm (noG_ok h3 hx))]
      exact k1
  · intro i l x hi
    rw [getA_cons] at hi
    split at hi
    · next hid =>
      subst hid
      cases hi
      obtain ⟨arr, ty, rfl, q1, q2⟩ := hb.1 _ _ rfl
      exact ⟨arr, ty, by rw [hud]; exact g1, q1, q2⟩
    · next hid =>
      rw [hu i (Ne.symm hid), g2 _ (h.re.lt hi)]
      exact h.re.blk i l x hi
  · intro i q p hi
    rw [getA_cons] at hi
    split at hi
    · next hid =>
      subst hid
      cases hi
      obtain ⟨bs, q1, rfl⟩ := hb.2 _ _ rfl
      exact ⟨bs, q1, by rw [hud]; exact g1⟩
    · next hid =>
      rw [hu i (Ne.symm hid), g2 _ (h.re.lt hi)]
      exact h.re.itr i q p hi
  · intro i e' hi bb g o k mo sp hbb
    rw [getA_cons] at hi
    split at hi
    · next hid =>
      subst hid
      rw [hud]
      exact Nat.ne_of_lt (hcell _ _ _ _ _ _ hbb)
    · next hid => rw [hu i (Ne.symm hid)]; exact h.re.off i e' hi bb g o k mo sp hbb
  · intro i j e1 e2 hi hj he
    rw [getA_cons] at hi hj
    split at hi
    · next hid =>
      subst hid
      split at hj
      · next hjd => exact hjd
      · next hjd =>
        rw [hud, hu j (Ne.symm hjd)] at he
        have := h.re.lt hj
        omega
    · next hid =>
      split at hj
      · next hjd =>
        subst hjd
        rw [hud, hu i (Ne.symm hid)] at he
        have := h.re.lt hi
        omega
      · next hjd =>
        rw [hu i (Ne.symm hid), hu j (Ne.symm hjd)] at he
        exact h.re.inj i j _ _ hi hj he
  · intro i e' hi
    rw [getA_cons] at hi
    split at hi
    · next hid =>
      subst hid
      rw [hud]
      intro hg
      have := h.ing _ hg
      omega
    · next hid => rw [hu i (Ne.symm hid)]; exact h.prot i e' hi

/-- More lanes. -/
def Nm.add (N : Nm) (t n : Nat) (kf : Nat → K) (g o : Nat) (mo : Bool) (sp : Nat) : Nm :=
  { N with ln := fun a => if t ≤ a ∧ a < t + n then some (.cell g (o + (a - t)) (kf (a - t)) mo (if a + 1 = t + n then sp else 0)) else N.ln a }
theorem Rel.lt_top {N : Nm} {c : Core} {w : World} (h : Rel N c w) {a : Nat} {i : LI} (ha : N.ln a = some i) : a < c.t := (h.top a i ha).2
theorem ext_add {N : Nm} {c : Core} {w : World} (h : Rel N c w) (n : Nat) (kf : Nat → K) (g o : Nat) (mo : Bool) (sp : Nat) : Ext N (N.add c.t n kf g o mo sp) := by
  refine ⟨fun a i ha => .inl ?_, fun _ _ h => h⟩
  simp only [Nm.add]
  rw [if_neg]
  · exact ha
  · have := h.lt_top ha; omega

theorem lane_apv {m t y : Nat} (ht : 1 ≤ t) (hm : m < 2 ^ (64 * t)) {b : Nat} (hb : 1 ≤ b) : lane (apv m t y) b = if b < t then lane m b else lane y (b - t) := by
  have hmix : ∀ z : Nat, Nat.mod z 2305843009213693951 < 2 ^ 61 := by
    intro z
    have : Nat.mod z 2305843009213693951 < 2305843009213693951 := Nat.mod_lt _ (by omega)
    omega
  apply Nat.eq_of_testBit_eq
  intro i
  rw [testBit_lane]
  by_cases hi : i < 64
  · rw [apv, testBit_xor', testBit_xor', shl6, testBit_shl', testBit_lt (hmix _) (i := 64 * b + i) (by omega)]
    by_cases h : b < t
    · have : ¬ 64 * t ≤ 64 * b + i := by omega
      simp [h, hi, this, testBit_lane]
    · have h1 : 64 * t ≤ 64 * b + i := by omega
      have h2 : 64 * b + i - 64 * t = 64 * (b - t) + i := by omega
      simp [h, hi, h1, h2, testBit_lane, testBit_lt hm h1]
  · split <;> simp [hi, testBit_lane]
theorem apv_lt {m t y n : Nat} (ht : 1 ≤ t) (hm : m < 2 ^ (64 * t)) (hy : y < 2 ^ (64 * n)) : apv m t y < 2 ^ (64 * (t + n)) := by
  have h61 : ∀ z : Nat, Nat.mod z 2305843009213693951 < 2 ^ (64 * (t + n)) := by
    intro z
    have h : Nat.mod z 2305843009213693951 < 2305843009213693951 := Nat.mod_lt _ (by omega)
    have h2 : (2 : Nat) ^ 64 ≤ 2 ^ (64 * (t + n)) := Nat.pow_le_pow_right (by omega) (by omega)
    have h3 : (2305843009213693951 : Nat) < 2 ^ 64 := by decide
    omega
  have hs : Nat.shiftLeft y (Nat.shiftLeft t 6) < 2 ^ (64 * (t + n)) := by
    rw [shl6]
    have : Nat.shiftLeft y (64 * t) = y * 2 ^ (64 * t) := Nat.shiftLeft_eq _ _
    rw [this]
    calc _ < 2 ^ (64 * n) * 2 ^ (64 * t) := Nat.mul_lt_mul_of_pos_right hy (Nat.two_pow_pos _)
      _ = 2 ^ (64 * (t + n)) := by rw [← Nat.pow_add]; congr 1; omega
  exact Nat.xor_lt_two_pow (Nat.lt_of_lt_of_le hm (Nat.pow_le_pow_right (by omega) (by omega))) (Nat.xor_lt_two_pow hs (h61 _))

/-- A new row in memory. -/
theorem Rel.make {N : Nm} {c : Core} {w w' : World} (h : Rel N c w) {arr : Array Value} {ty : TypeId} (hw : w'.heap = w.heap.push (.cells arr ty (0, 0))) {n : Nat} {kf : Nat → K} {y : Nat} (mo : Bool) {sp : Nat} (hs : n + sp ≤ arr.size)
    (hk : ∀ j, j < n → ∃ v, arr[j]? = some v ∧ RK N (kf j) (lane y j) v) {m' : Nat} (hm : ∀ b, 1 ≤ b → lane m' b = if b < c.t then lane c.m b else lane y (b - c.t)) (hmlt : m' < 2 ^ (64 * (c.t + n))) (htl : c.t + n < 4194304) :
    Rel (N.add c.t n kf w.heap.size 0 mo sp) ⟨m', c.t + n, c.s, c.d⟩ w' := by
  obtain ⟨g1, g2, g3⟩ := push_get hw
  have hext := ext_add h n kf w.heap.size 0 mo sp
  have hcell : ∀ b g o k mo sp, N.ln b = some (.cell g o k mo sp) → g < w.heap.size := by
    intro b g o k mo sp hb
    obtain ⟨arr, ty, v, hw', _⟩ := h.cell b g o k mo sp hb
    exact (Array.getElem?_eq_some_iff.1 hw').1
  have hin : ∀ a i, (N.add c.t n kf w.heap.size 0 mo sp).ln a = some i → (c.t ≤ a ∧ a < c.t + n ∧ i = .cell w.heap.size (a - c.t) (kf (a - c.t)) mo (if a + 1 = c.t + n then sp else 0)) ∨ (a < c.t ∧ N.ln a = some i) := by
    intro a i ha
    simp only [Nm.add] at ha
    split at ha
    · next hh => cases ha; exact .inl ⟨hh.1, hh.2, by rw [Nat.zero_add]⟩
    · exact .inr ⟨h.lt_top ha, ha⟩
  refine ⟨?_, ?_, ?_, ?_, ?_, hmlt, ⟨by have := h.tl.1; show 1 ≤ c.t + n; omega, htl⟩, h.str, h.spos⟩
  · intro a g o k m sp' ha
    rcases hin a _ ha with ⟨p1, p2, p3⟩ | ⟨p1, p2⟩
    · injection p3 with q1 q2 q3 q4 q5
      subst q1 q2 q3 q4 q5
      obtain ⟨v, hv1, hv2⟩ := hk (a - c.t) (by omega)
      refine ⟨arr, ty, v, g1, hv1, ?_, by split <;> omega⟩
      show RK _ _ (lane m' a) v
      rw [hm a (by have := h.tl.1; omega), if_neg (by omega)]
      exact hv2.mono hext
    · obtain ⟨arr', ty', v, q1, q2, q3, q4⟩ := h.cell a g o k m sp' p2
      refine ⟨arr', ty', v, by rw [g2 g (hcell _ _ _ _ _ _ p2)]; exact q1, q2, ?_, q4⟩
      show RK _ _ (lane m' a) v
      rw [hm a (h.top _ _ p2).1, if_pos p1]
      exact q3.mono hext
  · intro a a' g o k m s k' m' s' ha ha'
    rcases hin a _ ha with ⟨p1, p2, p3⟩ | ⟨p1, p2⟩
    · injection p3 with q1 q2 q3 q4 q5
      rcases hin a' _ ha' with ⟨r1, r2, r3⟩ | ⟨r1, r2⟩
      · injection r3 with u1 u2 u3 u4 u5
        omega
      · have := hcell _ _ _ _ _ _ r2
        omega
    · rcases hin a' _ ha' with ⟨r1, r2, r3⟩ | ⟨r1, r2⟩
      · injection r3 with u1 u2 u3 u4 u5
        have := hcell _ _ _ _ _ _ p2
        omega
      · exact h.inj _ _ _ _ _ _ _ _ _ _ p2 r2
  · intro a a' g o k m s o' k' m' s' ha ha' hlt
    rcases hin a _ ha with ⟨p1, p2, p3⟩ | ⟨p1, p2⟩
    · injection p3 with q1 q2 q3 q4 q5
      rcases hin a' _ ha' with ⟨r1, r2, r3⟩ | ⟨r1, r2⟩
      · injection r3 with u1 u2 u3 u4 u5
        subst q5
        split <;> omega
      · have := hcell _ _ _ _ _ _ r2
        omega
    · rcases hin a' _ ha' with ⟨r1, r2, r3⟩ | ⟨r1, r2⟩
      · injection r3 with u1 u2 u3 u4 u5
        have := hcell _ _ _ _ _ _ p2
        omega
      · exact h.spare _ _ _ _ _ _ _ _ _ _ _ p2 r2 hlt
  · intro a ha
    rcases hin a _ ha with ⟨p1, p2, p3⟩ | ⟨p1, p2⟩
    · cases p3
    · exact h.dead a p2
  · intro a i ha
    rcases hin a _ ha with ⟨p1, p2, p3⟩ | ⟨p1, p2⟩
    · exact ⟨by have := h.tl.1; omega, p2⟩
    · exact ⟨(h.top _ _ p2).1, by show a < c.t + n; omega⟩
end Go.Proofs.YtaekfgbfpfecdaaGreat.VM

/- Variables and rows made; strings joined; as the machine has it and as the model has it; no conditions but those that each theorem names. -/
namespace Go.Proofs.YtaekfgbfpfecdaaGreat.VM
open Go
set_option linter.unusedVariables false
set_option linter.unusedSimpArgs false
variable {P : Program} [Df]
set_option linter.unusedSectionVars false

theorem Pools.mono {N N' : Nm} (h : Pools N) (e : Ext N N') : Pools N' := ⟨fun b x hb => ⟨(h.str b x hb).1.mono e, (h.str b x hb).2⟩⟩
theorem RE.mono {N N' : Nm} {lam : Nat → Nat} {env : Env} {lo : Lo} {a : Act} {w w' : World} (h : RE N lam env lo a w) (e : Ext N N') (hs : ∀ i e, getA lo i = some e → w'.heap[lam i]? = w.heap[lam i]?)
    (ho : ∀ i e, getA lo i = some e → ∀ b g o k mo sp, N'.ln b = some (.cell g o k mo sp) → g ≠ lam i) : RE N' lam env lo a w' := by
  refine ⟨fun i x hx => ?_, h.grd, fun i l x hi => ?_, fun i q p hi => ?_, ho, h.inj⟩
  · obtain ⟨v, h1, h2⟩ := h.slot i x hx
    exact ⟨v, h1, h2.mono e⟩
  · rw [hs i _ hi]
    obtain ⟨arr, ty, h1, h2, h3⟩ := h.blk i l x hi
    exact ⟨arr, ty, h1, h2, h3.mono e⟩
  · rw [hs i _ hi]
    obtain ⟨bs, h1, h2⟩ := h.itr i q p hi
    exact ⟨bs, ⟨h1.1.mono e, h1.2⟩, h2⟩

/-- A new row in memory: what holds goes on holding. -/
theorem OK.make {nt : Nat} {G : Nat → Prop} {N : Nm} {lam : Nat → Nat} {env : Env} {lo : Lo} {c : Core} {a : Act} {w w' : World} (h : OK nt G N lam env lo c a w) {arr : Array Value} {ty : TypeId}
    (hw : w'.heap = w.heap.push (.cells arr ty (0, 0))) (ho : w'.os = w.os ∧ w'.output = w.output) {n : Nat} {kf : Nat → K} {mo : Bool} {sp : Nat} {c' : Core} (hrel : Rel (N.add c.t n kf w.heap.size 0 mo sp) c' w') :
    OK nt G (N.add c.t n kf w.heap.size 0 mo sp) lam env lo c' a w' ∧ Ext N (N.add c.t n kf w.heap.size 0 mo sp) ∧ Same G w w' ∧ w.heap.size ≤ w'.heap.size := by
  obtain ⟨g1, g2, g3⟩ := push_get hw
  have hext := ext_add h.rel n kf w.heap.size 0 mo sp
  have hin : ∀ b g o k m s, (N.add c.t n kf w.heap.size 0 mo sp).ln b = some (.cell g o k m s) → g = w.heap.size ∨ N.ln b = some (.cell g o k m s) := by
    intro b g o k m s hb
    simp only [Nm.add] at hb
    split at hb
    · cases hb; exact .inl rfl
    · exact .inr hb
  refine ⟨⟨h.re.mono hext (fun i e hi => g2 _ (h.re.lt hi)) ?_, hrel, h.pools.mono hext, ?_, h.ing.le (by omega), h.prot, h.nt, h.df⟩, hext, ⟨ho, fun g hg => g2 g (h.ing g hg)⟩, by omega⟩
  · intro i e hi b g o k m s hb
    rcases hin _ _ _ _ _ _ hb with rfl | hb
    · exact Nat.ne_of_gt (h.re.lt hi)
    · exact h.re.off i e hi b g o k m s hb
  · intro g b o k m s hg hb
    rcases hin _ _ _ _ _ _ hb with rfl | hb
    · have := h.ing _ hg; omega
    · exact h.off g b o k m s hg hb

theorem gd_none {o : Oper} {all : List Oper} {env : Env} {gd : Gd} (h : o.guard = none) (hg : guardOf all env o = some gd) : gd = none := by
  unfold guardOf at hg; rw [h] at hg; cases hg; rfl
theorem guard_none {o : Oper} {all : List Oper} {env : Env} (hg : guardOf all env o = some none) : o.guard = none := by
  unfold guardOf at hg
  cases h : o.guard with
  | none => rfl
  | some jw =>
    rw [h] at hg
    obtain ⟨j, w⟩ := jw
    simp only at hg
    split at hg
    · split at hg
      · split at hg
        · split at hg
          · cases hg
          · cases hg
        · cases hg
      · cases hg
    · cases hg

/-- An operation that makes a value, in the middle of a region. -/
theorem wpOp_value {ops : Array Oper} {i : Nat} {o : Oper} (ho : ops[i]? = some o) (hg : o.guard = none) {a : Act} {w w' : World} {v : Value} (hr : (execOp a.eval o).run P w = .ok (.value v) w') {K : Act → World → Prop} {Q : Exit → Act → World → Prop}
    (hK : K (a.put o.dst v) w') : wpOp P ops Q i K a w := by
  unfold wpOp
  simp only [ho, Region.wanted, hg, if_true]
  refine .inl ?_
  unfold Oper.wp
  rw [hr]
  exact hK

theorem run_alloc {w : World} {t : TypeId} {i : TypeInfo} {z : Value} (hi : P.info? t = some i) (hz : i.zero = some z) :
    (Instr.alloc t true (.tuple #[])).run P w = .ok (.pointer (some ⟨w.heap.size, 0, none⟩)) { w with heap := w.heap.push (.cells z.cells t (0, 0)) } := by
  simp [Instr.alloc, zeroValue, typeInfo, hi, hz, newVar, Go.newRow]

theorem alloc_ok (hF : Facts P) {ops : Array Oper} {i : Nat} {o : Oper} (ho : ops[i]? = some o) (hg : o.guard = none) {I : FI} {t : TypeId} (hop : o.op = .alloc t) {env : Env} {lo : Lo} {c : Core} :
    Def3 (fun k => denAlloc I o.dst t env lo c k) (Sound1 P ops i I.nt env lo c) := by
  unfold denAlloc
  cases hdst : o.dst with
  | none => exact .inl fun k => rfl
  | some d =>
  simp only
  cases q : (zeroOk t && Nat.blt 0 (lenK (lay t))) with
  | false => exact .inl fun k => rfl
  | true =>
  simp only [Bool.and_eq_true, blt_eq, decide_eq_true_eq, lenK_eq] at q
  obtain ⟨it, z, hit, hz, hzl, _⟩ := hF.zero t q.1
  have hexec : ∀ (a : Act) (w : World), (execOp a.eval o).run P w = .ok (.value (.pointer (some ⟨w.heap.size, 0, none⟩))) { w with heap := w.heap.push (.cells z.cells t (0, 0)) } := by
    intro a w
    simp only [execOp, hop]
    simp only [Sem.run_bind, run_alloc hit hz, Result.andThen_ok, Sem.run_pure]
  simp only [cond_true]
  cases memN d I.locs with
  | true =>
    simp only [newLoc]
    cases hd : (noLo d lo && noL d env && noG d env && Nat.blt d I.nt) with
    | false => exact .inl fun k => rfl
    | true =>
      refine .inr ⟨_, _, c, ?_, fun k => rfl⟩
      intro G N lam a w hok K Q hK
      refine wpOp_value ho hg (hexec a w) (hK _ _ ?_)
      rw [hdst]
      refine hok.newLoc rfl hd ⟨fun l x h => ?_, fun q p h => by cases h⟩ (fun s w g x h => by cases h) (by simp [REnt, upd]) ⟨rfl, rfl⟩
      cases h
      exact ⟨_, _, rfl, Nat.two_pow_pos _, hzl N c w hok.rel⟩
  | false =>
    simp only [force_eq, nRow]
    cases hb : Nat.blt (Nat.add c.t (lenK (lay t))) 4194304 with
    | false => exact .inl fun k => rfl
    | true =>
      rw [blt_eq, decide_eq_true_eq, lenK_eq] at hb
      have hb' : c.t + (lay t).length < 4194304 := hb
      simp only [cond_true]
      rcases setK_def I.nt I.forced (some d) none (.n (.ptr (lay t) false true) true (Nat.shiftLeft c.t 6)) env with hd | ⟨env', hd, hset⟩
      · exact .inl fun k => hd _
      · refine .inr ⟨env', lo, _, ?_, fun k => hd _⟩
        intro G N lam a w hok K Q hK
        refine wpOp_value ho hg (hexec a w) (hK _ _ ?_)
        have hzl := hzl N c w hok.rel
        have hzs : z.cells.size = (lay t).length := hzl.1
        have hrel := hok.rel.make (w' := { w with heap := w.heap.push (.cells z.cells t (0, 0)) }) (arr := z.cells) (ty := t) rfl (n := (lay t).length) (kf := fun j => (lay t).getD j .bool) (y := 0) false (sp := 0) (by omega) (by
          intro j hj
          have h1 := hzl.2 j hj (by rw [Array.length_toList, hzs]; exact hj)
          have hjz : j < z.cells.toList.length := by rw [Array.length_toList, hzs]; exact hj
          refine ⟨z.cells.toList[j], by rw [← Array.getElem?_toList, List.getElem?_eq_getElem hjz], ?_⟩
          rw [List.getD_eq_getElem?_getD, List.getElem?_eq_getElem hj]
          exact h1) (m' := c.m) (by
            intro b hb1
            split
            · rfl
            · rw [lane_zero, lane_big hok.rel.mlt (by omega)]) (Nat.lt_of_lt_of_le hok.rel.mlt (Nat.pow_le_pow_right (by omega) (by omega))) hb'
        obtain ⟨hok', hext, hsame, hsz⟩ := hok.make (w' := { w with heap := w.heap.push (.cells z.cells t (0, 0)) }) rfl ⟨rfl, rfl⟩ hrel
        have hlen : Nat.add c.t (lenK (lay t)) = c.t + (lay t).length := by rw [lenK_eq]; rfl
        rw [hlen, hdst]
        refine ⟨_, lam, hext, hok'.set hset (fun _ => ?_) (fun s w g h => by cases h) (fun s w h => by cases h), hsame, hsz⟩
        simp only [REnt, RSh]
        rw [shl6]
        have := hok.rel.tl
        refine ⟨by omega, .inr ⟨by omega, w.heap.size, 0, rfl, c.t, rfl, fun j hj => .inl ⟨false, if c.t + j + 1 = c.t + (lay t).length then 0 else 0, ?_, fun h => h⟩⟩, fun _ => by omega⟩
        simp only [Nm.add]
        rw [if_pos ⟨by omega, by omega⟩, Nat.add_sub_cancel_left, List.getD_eq_getElem?_getD, List.getElem?_eq_getElem hj]
        simp
end Go.Proofs.YtaekfgbfpfecdaaGreat.VM

/- Boxes, literals of slices, strings joined; as the machine has it and as the model has it; no conditions but those that each theorem names. -/
namespace Go.Proofs.YtaekfgbfpfecdaaGreat.VM
open Go
set_option linter.unusedVariables false
set_option linter.unusedSimpArgs false
variable {P : Program} [Df]
set_option linter.unusedSectionVars false

/-- A row of known lanes laid into memory. -/
theorem OK.row {nt : Nat} {G : Nat → Prop} {N : Nm} {lam : Nat → Nat} {env : Env} {lo : Lo} {c : Core} {a : Act} {w w' : World} (h : OK nt G N lam env lo c a w) {arr : Array Value} {ty : TypeId}
    (hw : w'.heap = w.heap.push (.cells arr ty (0, 0))) (ho : w'.os = w.os ∧ w'.output = w.output) {l : List K} {y : Nat} (mo : Bool) {sp : Nat} (hy : y < 2 ^ (64 * l.length)) (hl : arr.size = l.length + sp) (hrl : RL N l y (arr.toList.take l.length)) (htl : c.t + l.length < 4194304) :
    ∃ kf, (∀ j (h : j < l.length), kf j = l[j]) ∧ OK nt G (N.add c.t l.length kf w.heap.size 0 mo sp) lam env lo ⟨apv c.m c.t y, c.t + l.length, c.s, c.d⟩ a w' ∧ Ext N (N.add c.t l.length kf w.heap.size 0 mo sp) ∧ Same G w w' ∧ w.heap.size ≤ w'.heap.size := by
  refine ⟨fun j => l.getD j .bool, fun j hj => by show l.getD j K.bool = l[j]; rw [List.getD_eq_getElem?_getD, List.getElem?_eq_getElem hj]; rfl, ?_⟩
  have hrel := h.rel.make (w' := w') (arr := arr) (ty := ty) hw (n := l.length) (kf := fun j => l.getD j .bool) (y := y) mo (sp := sp) (by omega) (by
    intro j hj
    have hlen : (arr.toList.take l.length).length = l.length := hrl.1
    have h1 := hrl.2 j hj (by omega)
    refine ⟨(arr.toList.take l.length)[j], ?_, ?_⟩
    · rw [← Array.getElem?_toList, ← List.getElem?_take_of_lt hj, List.getElem?_eq_getElem (by omega)]
    · rw [List.getD_eq_getElem?_getD, List.getElem?_eq_getElem hj]
      exact h1) (m' := apv c.m c.t y) (fun b hb => lane_apv h.rel.tl.1 h.rel.mlt hb) (apv_lt h.rel.tl.1 h.rel.mlt hy) htl
  exact h.make hw ho hrel
theorem row_ptr {N : Nm} {c : Core} {w : World} (hR : Rel N c w) {l : List K} {kf : Nat → K} (hk : ∀ j (h : j < l.length), kf j = l[j]) {g sp : Nat} {lam : Nat → Nat} {fl : Bool} (hl : 0 < l.length) (v : Value) (hv : v = .pointer (some ⟨g, 0, none⟩)) (htl : c.t + l.length < 4194304) :
    REnt (N.add c.t l.length kf g 0 false sp) lam (.n (.ptr l false true) fl (Nat.shiftLeft c.t 6)) v := by
  subst hv
  simp only [REnt, RSh]
  rw [shl6]
  have := hR.tl
  refine ⟨by omega, .inr ⟨by omega, g, 0, rfl, c.t, rfl, fun j hj => .inl ⟨false, if c.t + j + 1 = c.t + l.length then sp else 0, ?_, fun h => h⟩⟩, fun _ => by omega⟩
  simp only [Nm.add]
  rw [if_pos ⟨by omega, by omega⟩, Nat.add_sub_cancel_left, hk j hj]

theorem box_ok (hF : Facts P) {ops : Array Oper} {i : Nat} {o : Oper} (ho : ops[i]? = some o) (hg : o.guard = none) {I : FI} {t : TypeId} {x : Operand} (hop : o.op = .box t x) {env : Env} {lo : Lo} {c : Core} {ev : Ent} (hev : evO env x = some ev) :
    Def3 (fun k => denBox I o.dst t ev env lo c k) (Sound1 P ops i I.nt env lo c) := by
  unfold denBox
  cases hdst : o.dst with
  | none => exact .inl fun k => rfl
  | some d =>
  simp only
  cases q : (Nat.beq (ty t).size (lenK (lay t)) && Nat.blt 0 (lenK (lay t))) with
  | false => exact .inl fun k => rfl
  | true =>
  simp only [Bool.and_eq_true, blt_eq, decide_eq_true_eq, lenK_eq] at q
  have hl : 0 < (lay t).length := q.2
  have hexec : ∀ (a : Act) (w : World), (execOp a.eval o).run P w = .ok (.value (.pointer (some ⟨w.heap.size, 0, none⟩))) { w with heap := w.heap.push (.cells (a.eval x).cells t (0, 0)) } := by
    intro a w
    have : (Instr.box t (a.eval x)).run P w = .ok (.pointer (some ⟨w.heap.size, 0, none⟩)) { w with heap := w.heap.push (.cells (a.eval x).cells t (0, 0)) } := rfl
    simp only [execOp, hop]
    simp only [Sem.run_bind, this, Result.andThen_ok, Sem.run_pure]
  simp only [cond_true]
  cases hy : toLay (lay t) (ty t).desc.isRow ev with
  | none => exact .inl fun k => rfl
  | some y =>
  simp only
  cases memN d I.locs with
  | true =>
    simp only [newLoc, force_eq]
    cases hd : (noLo d lo && noL d env && noG d env && Nat.blt d I.nt) with
    | false => exact .inl fun k => rfl
    | true =>
      refine .inr ⟨_, _, c, ?_, fun k => rfl⟩
      intro G N lam a w hok K Q hK
      obtain ⟨y1, y2, _⟩ := toLay_ok hy (evO_ok hok.pools hok.re hev)
      refine wpOp_value ho hg (hexec a w) (hK _ _ ?_)
      rw [hdst]
      refine hok.newLoc rfl hd ⟨fun l x h => ?_, fun q p h => by cases h⟩ (fun s w g x h => by cases h) (by simp [REnt, upd]) ⟨rfl, rfl⟩
      cases h
      exact ⟨_, _, rfl, y1, y2⟩
  | false =>
    simp only [force_eq, nRow]
    cases hb : Nat.blt (Nat.add c.t (lenK (lay t))) 4194304 with
    | false => exact .inl fun k => rfl
    | true =>
      rw [blt_eq, decide_eq_true_eq, lenK_eq] at hb
      have hb' : c.t + (lay t).length < 4194304 := hb
      simp only [cond_true]
      rcases setK_def I.nt I.forced (some d) none (.n (.ptr (lay t) false true) true (Nat.shiftLeft c.t 6)) env with hd | ⟨env', hd, hset⟩
      · exact .inl fun k => hd _
      · refine .inr ⟨env', lo, _, ?_, fun k => hd _⟩
        intro G N lam a w hok K Q hK
        obtain ⟨y1, y2, _⟩ := toLay_ok hy (evO_ok hok.pools hok.re hev)
        refine wpOp_value ho hg (hexec a w) (hK _ _ ?_)
        have hcs : (a.eval x).cells.size = (lay t).length := y2.1
        obtain ⟨kf, hkf, hok', hext, hsame, hsz⟩ := hok.row (w' := { w with heap := w.heap.push (.cells (a.eval x).cells t (0, 0)) }) rfl ⟨rfl, rfl⟩ false (sp := 0) y1 (by omega) (by
          rw [List.take_of_length_le (by rw [Array.length_toList]; omega)]; exact y2) hb'
        have hlen : Nat.add c.t (lenK (lay t)) = c.t + (lay t).length := by rw [lenK_eq]; rfl
        rw [hlen, hdst]
        exact ⟨_, lam, hext, hok'.set hset (fun _ => row_ptr hok.rel hkf hl _ rfl hb') (fun s w g h => by cases h) (fun s w h => by cases h), hsame, hsz⟩

theorem run_buildS {w : World} {t el : TypeId} {len : Nat} {inf : TypeInfo} {z : Value} (hu : P.underlying t = some (.slice el)) (hi : P.info? el = some inf) (hz : inf.zero = some z) (hzs : z.cells.size = inf.size)
    (hlen : len * inf.size ≤ 16777216) (hpos : len * inf.size ≠ 0) {parts : Array (Nat × Value)} {cells : Array Value} (hf : Instr.fill (fun i => some (i * inf.size, inf.size)) ((Array.range (len * inf.size)).map (z.cells[· % inf.size]!)) parts.toList = some cells) :
    (Instr.buildSlice t len parts).run P w = .ok (.slice (some ⟨w.heap.size, 0, none⟩) len len) { w with heap := w.heap.push (.cells cells el (0, 0)) } := by
  have h1 : ¬ len * inf.size > 2 ^ 24 := by omega
  have hzr : (zeroValue el).run P w = .ok z w := by simp [zeroValue, typeInfo, hi, hz]
  unfold Instr.buildSlice
  simp only [Sem.run_bind, run_underlying hu w, Result.andThen_ok, run_size hi w, if_neg h1, if_neg hpos, hzr, Sem.run_pure, hzs, hf]
  rfl
end Go.Proofs.YtaekfgbfpfecdaaGreat.VM

/- Literals of slices, strings joined; as the machine has it and as the model has it; no conditions but those that each theorem names. -/
namespace Go.Proofs.YtaekfgbfpfecdaaGreat.VM
open Go
set_option linter.unusedVariables false
set_option linter.unusedSimpArgs false
variable {P : Program} [Df]
set_option linter.unusedSectionVars false

theorem rep_kat {l : List K} {n j : Nat} (hl : 0 < l.length) (hj : j < n * l.length) : (repK n l)[j]? = some (kat l j) ∧ kat l j = (l.getD (j % l.length) .bool) := by
  refine ⟨?_, rfl⟩
  have h1 : j / l.length < n := by rw [Nat.div_lt_iff_lt_mul hl]; exact hj
  have h2 : j % l.length < l.length := Nat.mod_lt _ hl
  have := repK_get l n (j / l.length) (j % l.length) h1 h2
  have h3 : j / l.length * l.length + j % l.length = j := by
    have := Nat.div_add_mod j l.length
    rw [Nat.mul_comm] at this
    exact this
  rw [h3, List.getElem?_eq_getElem h2] at this
  rw [this, kat, List.getD_eq_getElem?_getD, List.getElem?_eq_getElem h2]; rfl
/-- A row of zeros. -/
theorem zero_row {N : Nm} {l : List K} {cs : Array Value} (h : RL N l 0 cs.toList) (hl : 0 < l.length) (n : Nat) : RL N (repK n l) 0 ((Array.range (n * l.length)).map (cs[· % l.length]!)).toList := by
  have hcs : cs.size = l.length := h.1
  refine ⟨by simp [repK_len], fun j hj hj' => ?_⟩
  have hjn : j < n * l.length := by rw [repK_len] at hj; exact hj
  have hm : j % l.length < l.length := Nat.mod_lt _ hl
  have h1 := (rep_kat (n := n) hl hjn).1
  rw [List.getElem?_eq_getElem hj] at h1
  rw [Option.some.inj h1]
  have h2 : kat l j = l[j % l.length] := by
    unfold kat
    rw [List.getD_eq_getElem?_getD, List.getElem?_eq_getElem hm]; rfl
  have hct : cs.toList.length = cs.size := rfl
  have h3 := h.2 (j % l.length) hm (by omega)
  rw [h2, lane_zero]
  rw [lane_zero] at h3
  have h4 : ((Array.range (n * l.length)).map (cs[· % l.length]!)).toList[j] = cs[j % l.length]! := by simp
  rw [h4]
  have h5 : cs[j % l.length]! = cs.toList[j % l.length]'(by omega) := by
    rw [getElem!_pos cs _ (by omega)]
    simp
  rw [h5]
  exact h3

/-- A slice's number over a row in memory. -/
theorem row_sli {N : Nm} {c : Core} {w : World} (hR : Rel N c w) {l : List K} (hl : 0 < l.length) {kf : Nat → K} {m : Nat} (hk : ∀ j, j < m * l.length → kf j = kat l j) {g sp len cc : Nat} {ex : Nat} (hex : ex ≤ 1) {mo : Bool} (hmo : ex = 0 → mo = true)
    (hm : m < 131072) (hlen : len ≤ m) (htl : c.t + m * l.length < 4194304) (hcc1 : ex = 1 → cc = m) (hcc0 : ex = 0 → 1 ≤ m ∧ m ≤ cc ∧ (cc - m) * l.length ≤ sp) :
    slmk (64 * c.t) len m ex < 2 ^ 64 ∧ RS (N.add c.t (m * l.length) kf g 0 mo sp) l (slmk (64 * c.t) len m ex) (.slice (some ⟨g, 0, none⟩) len cc) := by
  obtain ⟨g1, g2, g3, g4, g5⟩ := slmk_get (p := 64 * c.t) (len := len) (cap := m) (ex := ex) (by omega) (by omega) hm hex
  refine ⟨g5, .inr (.inr ⟨c.t, g, 0, cc, g1, hR.tl.1, by rw [g2], by rw [g2, g3]; exact hlen, by rw [g4]; exact hex, by rw [g3]; exact htl, ?_, ?_, ?_⟩)⟩
  · intro j hj
    rw [g3] at hj
    rw [g4]
    refine .inr ⟨mo, if c.t + j + 1 = c.t + m * l.length then sp else 0, ?_, hmo⟩
    simp only [Nm.add]
    rw [if_pos ⟨by omega, by omega⟩, Nat.add_sub_cancel_left, hk j hj]
  · intro e; rw [g4] at e; rw [g3]; exact hcc1 e
  · intro e
    rw [g4] at e
    obtain ⟨q1, q2, q3⟩ := hcc0 e
    have hpos : 1 ≤ m * l.length := Nat.mul_pos q1 hl
    rw [g3]
    refine ⟨q1, q2, .inr ⟨kf (m * l.length - 1), sp, ?_, q3⟩⟩
    simp only [Nm.add]
    rw [if_pos ⟨by omega, by omega⟩, Nat.add_sub_cancel_left, if_pos (by omega), hmo e]

theorem buildS_ok (hF : Facts P) {ops : Array Oper} {i : Nat} {o : Oper} (ho : ops[i]? = some o) (hg : o.guard = none) {I : FI} {t : TypeId} {len : Nat} {ps : Array (Nat × Operand)} (hop : o.op = .buildSlice t len ps) {env : Env} {lo : Lo} {c : Core} :
    Def3 (fun k => denBuildS I o.dst t len ps.toList env lo c k) (Sound1 P ops i I.nt env lo c) := by
  unfold denBuildS
  have f1 := hF.sli t
  generalize ty t = r at f1 ⊢
  obtain ⟨td, n⟩ := r
  cases hdst : o.dst with
  | none => cases td <;> exact .inl fun k => rfl
  | some d =>
  cases td <;> first | exact .inl fun k => rfl | skip
  next el =>
  have hu := f1 _ _ rfl
  simp only
  cases q : (zeroOk el && Nat.blt 0 (lenK (lay el)) && Nat.beq (ty el).size (lenK (lay el)) && Nat.blt 0 len && Nat.blt (Nat.mul len (lenK (lay el))) 131072) with
  | false => exact .inl fun k => rfl
  | true =>
  simp only [Bool.and_eq_true, blt_eq, decide_eq_true_eq, lenK_eq] at q
  obtain ⟨⟨⟨⟨q1, hl⟩, q3⟩, q4⟩, q5⟩ := q
  have q3 := Nat.eq_of_beq_eq_true q3
  have q5 : len * (lay el).length < 131072 := q5
  obtain ⟨it, z, hit, hz, hzl, _⟩ := hF.zero el q1
  obtain ⟨hsz, _⟩ := hF.size el (by omega)
  have hisz : it.size = (lay el).length := by rw [hit] at hsz; simp at hsz; omega
  simp only [cond_true]
  cases hy : partsN (placeArr len el) (repK len (lay el)) env ps.toList 0 0 with
  | none => exact .inl fun k => rfl
  | some y =>
  simp only
  have hlpos : 1 * (lay el).length ≤ len * (lay el).length := Nat.mul_le_mul_right _ q4
  have hexec : ∀ {G N lam a w}, OK I.nt G N lam env lo c a w → ∃ cells : Array Value, (execOp a.eval o).run P w = .ok (.value (.slice (some ⟨w.heap.size, 0, none⟩) len len)) { w with heap := w.heap.push (.cells cells el (0, 0)) } ∧
      RL N (repK len (lay el)) y cells.toList ∧ y < 2 ^ (64 * (repK len (lay el)).length) := by
    intro G N lam a w hok
    have hz0 := zero_row (hzl N c w hok.rel) hl len
    have hzs : z.cells.size = (lay el).length := (hzl N c w hok.rel).1
    obtain ⟨cells, hfill, hrl, hlt⟩ := fill_ok hok.pools hok.re (pl := fun i => some (i * it.size, it.size)) (fun i o z g hh => by
      unfold placeArr at hh
      obtain ⟨_, hh⟩ := cond_some hh
      cases hh
      rw [hisz, ← q3]
      rfl) _ _ _ ((Array.range (len * (lay el).length)).map (z.cells[· % (lay el).length]!)) _ hy (Nat.two_pow_pos _) (fun j _ => lane_zero j) hz0
    refine ⟨cells, ?_, hrl, hlt⟩
    have := run_buildS (P := P) (w := w) hu hit hz (by omega) (by rw [hisz]; omega) (by rw [hisz]; omega) (parts := ps.map fun (i, x) => (i, a.eval x)) (cells := cells) (len := len) (by
      rw [hisz]
      rw [← hfill]
      rw [hisz]
      simp)
    simp only [execOp, hop]
    simp only [Sem.run_bind, this, Result.andThen_ok, Sem.run_pure]
  cases memN d I.locs with
  | true =>
    simp only [newLoc, force_eq]
    cases hd : (noLo d lo && noL d env && noG d env && Nat.blt d I.nt) with
    | false => exact .inl fun k => rfl
    | true =>
      refine .inr ⟨_, _, c, ?_, fun k => rfl⟩
      intro G N lam a w hok K Q hK
      obtain ⟨cells, hr, hrl, hlt⟩ := hexec hok
      refine wpOp_value ho hg hr (hK _ _ ?_)
      rw [hdst]
      refine hok.newLoc rfl hd ⟨fun l x h => ?_, fun q p h => by cases h⟩ (fun s w g x h => by cases h) (by simp [REnt, upd]) ⟨rfl, rfl⟩
      cases h
      exact ⟨_, _, rfl, hlt, hrl⟩
  | false =>
    simp only [force_eq, nRow]
    cases hb : Nat.blt (Nat.add c.t (Nat.mul len (lenK (lay el)))) 4194304 with
    | false => exact .inl fun k => rfl
    | true =>
      rw [blt_eq, decide_eq_true_eq, lenK_eq] at hb
      have hb' : c.t + len * (lay el).length < 4194304 := hb
      simp only [cond_true]
      rcases setK_def I.nt I.forced (some d) none (.n (.sli (lay el)) false (slmk (Nat.shiftLeft c.t 6) len len 1)) env with hd | ⟨env', hd, hset⟩
      · exact .inl fun k => hd _
      · refine .inr ⟨env', lo, _, ?_, fun k => hd _⟩
        intro G N lam a w hok K Q hK
        obtain ⟨cells, hr, hrl, hlt⟩ := hexec hok
        refine wpOp_value ho hg hr (hK _ _ ?_)
        have hrep := repK_len (lay el) len
        have hcs : cells.size = (repK len (lay el)).length := hrl.1
        obtain ⟨kf, hkf, hok', hext, hsame, hsz2⟩ := hok.row (w' := { w with heap := w.heap.push (.cells cells el (0, 0)) }) rfl ⟨rfl, rfl⟩ false (sp := 0) hlt (by omega) (by
          rw [List.take_of_length_le (by rw [Array.length_toList]; omega)]; exact hrl) (by rw [hrep]; exact hb')
        have hlen : Nat.add c.t (Nat.mul len (lenK (lay el))) = c.t + (repK len (lay el)).length := by rw [lenK_eq, hrep]; rfl
        rw [hlen, hdst]
        have hkf' : ∀ j, j < len * (lay el).length → kf j = kat (lay el) j := by
          intro j hj
          have h1 := (rep_kat (n := len) hl hj).1
          rw [List.getElem?_eq_getElem (by rw [hrep]; exact hj)] at h1
          rw [hkf j (by rw [hrep]; exact hj)]
          exact Option.some.inj h1
        obtain ⟨s1, s2⟩ := row_sli hok.rel hl (kf := kf) (m := len) hkf' (g := w.heap.size) (sp := 0) (len := len) (cc := len) (ex := 1) (by omega) (mo := false) (fun e => by cases e) (by
          have : len * 1 ≤ len * (lay el).length := Nat.mul_le_mul_left _ hl
          omega) (Nat.le_refl _) hb' (fun _ => rfl) (fun e => by cases e)
        refine ⟨_, lam, hext, hok'.set hset (fun _ => ?_) (fun s w g h => by cases h) (fun s w h => by cases h), hsame, hsz2⟩
        simp only [REnt, RSh]
        rw [shl6, hrep]
        exact ⟨s1, s2⟩
end Go.Proofs.YtaekfgbfpfecdaaGreat.VM

/- Strings joined; as the machine has it and as the model has it; no conditions but those that each theorem names. -/
namespace Go.Proofs.YtaekfgbfpfecdaaGreat.VM
open Go
set_option linter.unusedVariables false
set_option linter.unusedSimpArgs false
variable {P : Program} [Df]
set_option linter.unusedSectionVars false

def valB : List UInt8 → Nat
  | [] => 0
  | b :: l => b.toNat + 256 * valB l
theorem pow8 (n : Nat) : (2 : Nat) ^ (8 * (n + 1)) = 256 * 2 ^ (8 * n) := by rw [Nat.mul_add, Nat.pow_add, Nat.mul_comm]
theorem encB_val : ∀ l : List UInt8, encB l = valB l + 2 ^ (8 * l.length)
  | [] => rfl
  | b :: l => by
    rw [encB, valB, encB_val l, List.length_cons, pow8]; omega
theorem encB_app : ∀ l m : List UInt8, encB (l ++ m) = valB l + 2 ^ (8 * l.length) * encB m
  | [], m => by simp [valB]
  | b :: l, m => by
    rw [List.cons_append, encB, valB, encB_app l m, List.length_cons, pow8, Nat.mul_add, Nat.mul_assoc]; omega
theorem encB_get : ∀ (l : List UInt8) (i : Nat) (h : i < l.length), encB l / 2 ^ (8 * i) % 256 = l[i].toNat
  | b :: l, 0, _ => by
    have := b.toNat_lt
    simp only [encB, Nat.mul_zero, Nat.pow_zero, Nat.div_one, List.getElem_cons_zero]
    omega
  | b :: l, i + 1, h => by
    have hb := b.toNat_lt
    have := encB_get l i (by simpa using h)
    rw [encB, pow8, ← Nat.div_div_eq_div_mul]
    have e : (b.toNat + 256 * encB l) / 256 = encB l := by omega
    rw [e, this, List.getElem_cons_succ]
theorem encB_lt (l : List UInt8) : 2 ^ (8 * l.length) ≤ encB l ∧ encB l < 2 ^ (8 * l.length + 1) := by
  induction l with
  | nil => decide
  | cons b l ih =>
    have hb := b.toNat_lt
    have h1 : (2 : Nat) ^ (8 * l.length + 1) = 2 * 2 ^ (8 * l.length) := by rw [Nat.pow_succ, Nat.mul_comm]
    have h2 : (2 : Nat) ^ (8 * (l.length + 1) + 1) = 512 * 2 ^ (8 * l.length) := by rw [Nat.pow_succ, pow8]; omega
    rw [List.length_cons, h2, pow8, encB]
    omega
theorem strN_val (s x : Nat) : strN s x = valB (bytesOf s x) := by
  have h1 : strS s x = strN s x + 2 ^ (8 * (x % 65536)) := by
    have e3 : ∀ q, Nat.shiftLeft q 3 = 8 * q := fun q => by
      have : Nat.shiftLeft q 3 = q <<< 3 := rfl
      rw [this, Nat.shiftLeft_eq]; omega
    have e1 : ∀ q, Nat.shiftLeft 1 q = 2 ^ q := fun q => by
      have : Nat.shiftLeft 1 q = 1 <<< q := rfl
      rw [this, Nat.shiftLeft_eq, Nat.one_mul]
    unfold strS strN
    rw [e3, e1, strLen_eq]
    rfl
  have h2 := strS_eq s x
  rw [h1, encB_val, bytesOf_len] at h2
  omega

theorem valB_app2 (l m : List UInt8) : valB (l ++ m) = valB l + 2 ^ (8 * l.length) * valB m := by
  induction l with
  | nil => simp [valB]
  | cons b l ih => rw [List.cons_append, valB, ih, valB, List.length_cons, pow8, Nat.mul_add, Nat.mul_assoc]; omega
theorem catS_eq (s x y : Nat) : catS s x y = s + (valB (bytesOf s x ++ bytesOf s y) * 2 ^ sTop s + 8 * (bytesOf s x ++ bytesOf s y).length) := by
  have e3 : ∀ q, Nat.shiftLeft q 3 = 8 * q := fun q => by
    have : Nat.shiftLeft q 3 = q <<< 3 := rfl
    rw [this, Nat.shiftLeft_eq]; omega
  have e4 : ∀ a b, Nat.shiftLeft a b = a * 2 ^ b := fun a b => Nat.shiftLeft_eq a b
  have h1 : valB (bytesOf s x ++ bytesOf s y) = strN s x + strN s y * 2 ^ (8 * (x % 65536)) := by
    rw [valB_app2, strN_val, strN_val, bytesOf_len, Nat.mul_comm (2 ^ _)]
  have h2 : (bytesOf s x ++ bytesOf s y).length = x % 65536 + y % 65536 := by rw [List.length_append, bytesOf_len, bytesOf_len]
  unfold catS
  rw [lg_eq, e3, e3, e4, e4, strLen_eq, strLen_eq, h1, h2]
  rfl

/-- Names for more bytes. -/
def Nm.adds (N : Nm) (L : Nat) (bs : List UInt8) : Nm :=
  { N with st := fun p => if L ≤ p ∧ (p - L) % 8 = 0 ∧ (p - L) / 8 < bs.length then bs[(p - L) / 8]? else N.st p }
theorem valB_lt (l : List UInt8) : valB l < 2 ^ (8 * l.length) := by
  have := (encB_lt l).2
  rw [encB_val, Nat.pow_succ] at this
  omega
theorem valB_get (l : List UInt8) (i : Nat) (h : i < l.length) : valB l / 2 ^ (8 * i) % 256 = l[i].toNat := by
  have h1 := encB_get l i h
  rw [encB_val] at h1
  have e : (2 : Nat) ^ (8 * l.length) = 2 ^ (8 * (l.length - i - 1)) * 256 * 2 ^ (8 * i) := by
    rw [show (256 : Nat) = 2 ^ 8 from rfl, ← Nat.pow_add, ← Nat.pow_add]
    congr 1; omega
  rw [e, Nat.add_mul_div_right _ _ (Nat.two_pow_pos _), Nat.add_mul_mod_self_right] at h1
  exact h1
theorem Rel.addB {N : Nm} {c : Core} {w : World} (h : Rel N c w) {s' : Nat} {bs : List UInt8} (hbig : sTop c.s + 8 * bs.length < 18446744073709551616) (hcat : s' = c.s + (valB bs * 2 ^ sTop c.s + 8 * bs.length)) :
    Rel (N.adds (sTop c.s) bs) ⟨c.m, c.t, s', c.d⟩ w ∧ Ext N (N.adds (sTop c.s) bs) ∧ (∀ i (hi : i < bs.length), (N.adds (sTop c.s) bs).st (sTop c.s + 8 * i) = some bs[i]) := by
  obtain ⟨⟨hs, h64⟩, hp64⟩ := h.spos
  generalize hL : sTop c.s = L at *
  have hV := valB_lt bs
  obtain ⟨q, rfl⟩ : ∃ q, L = 64 + q := ⟨L - 64, by omega⟩
  have hlow : c.s % 18446744073709551616 = 64 + q := hL
  have e64 : (2 : Nat) ^ 64 = 18446744073709551616 := rfl
  have hsplit : c.s = c.s / 18446744073709551616 * 18446744073709551616 + (64 + q) := by
    have := Nat.div_add_mod c.s 18446744073709551616
    omega
  generalize hA : c.s / 18446744073709551616 = A at hsplit
  have hAq : A < 2 ^ q := by
    rw [← hA, Nat.div_lt_iff_lt_mul (by decide), ← e64, ← Nat.pow_add, Nat.add_comm q]; exact hs
  have hs' : s' = (A + valB bs * 2 ^ q) * 18446744073709551616 + (64 + q + 8 * bs.length) := by
    rw [hcat, hsplit, Nat.pow_add, e64, Nat.add_mul, Nat.mul_assoc, Nat.mul_comm 18446744073709551616 (2 ^ q)]; omega
  have hdiv : s' / 18446744073709551616 = A + valB bs * 2 ^ q := by
    rw [hs', Nat.mul_comm, Nat.mul_add_div (by decide), Nat.div_eq_of_lt hbig]; rfl
  have htop : sTop s' = 64 + q + 8 * bs.length := by
    unfold sTop
    rw [hs', Nat.mul_comm, Nat.mul_add_mod, Nat.mod_eq_of_lt hbig]
  have hup : A + valB bs * 2 ^ q < 2 ^ (q + 8 * bs.length) := by
    have h1 : (valB bs + 1) * 2 ^ q ≤ 2 ^ (8 * bs.length) * 2 ^ q := Nat.mul_le_mul_right _ hV
    rw [Nat.add_mul, Nat.one_mul] at h1
    rw [Nat.pow_add, Nat.mul_comm (2 ^ q)]
    omega
  have hslt : s' < 2 ^ (64 + q + 8 * bs.length) := by
    rw [show 64 + q + 8 * bs.length = q + 8 * bs.length + 64 by omega, Nat.pow_add, e64, hs']
    have h1 : (A + valB bs * 2 ^ q + 1) * 18446744073709551616 ≤ 2 ^ (q + 8 * bs.length) * 18446744073709551616 := Nat.mul_le_mul_right _ hup
    rw [Nat.add_mul, Nat.one_mul] at h1
    omega
  have hat : ∀ z p, z / 2 ^ (64 + p) = z / 18446744073709551616 / 2 ^ p := fun z p => by rw [Nat.pow_add, e64, Nat.div_div_eq_div_mul]
  have hold : ∀ p, 64 ≤ p → p + 8 ≤ 64 + q → s' / 2 ^ p % 256 = c.s / 2 ^ p % 256 := by
    intro p h1 h2
    obtain ⟨r, rfl⟩ : ∃ r, p = 64 + r := ⟨p - 64, by omega⟩
    rw [hat, hat, hdiv, hA]
    have e : valB bs * 2 ^ q = valB bs * 2 ^ (q - r - 8) * 256 * 2 ^ r := by
      rw [show (256 : Nat) = 2 ^ 8 from rfl, Nat.mul_assoc, Nat.mul_assoc, ← Nat.pow_add, ← Nat.pow_add]
      congr 2; omega
    rw [e, Nat.add_mul_div_right _ _ (Nat.two_pow_pos _), Nat.add_mul_mod_self_right]
  have hext : Ext N (N.adds (64 + q) bs) := by
    refine ⟨fun a i ha => .inl ha, fun p b hp => ?_⟩
    have := (h.str p b hp).2
    rw [hL] at this
    simp only [Nm.adds]
    rw [if_neg (by omega)]
    exact hp
  refine ⟨⟨?_, h.inj, h.spare, h.dead, h.top, h.mlt, h.tl, ?_, ⟨⟨by rw [htop]; exact hslt, by rw [htop]; omega⟩, ?_⟩⟩, hext, ?_⟩
  · intro a g o k mo sp ha
    obtain ⟨arr, ty, v, h1, h2, h3, h4⟩ := h.cell a g o k mo sp ha
    exact ⟨arr, ty, v, h1, h2, h3.mono hext, h4⟩
  · intro p b hp
    show b = UInt8.ofNat (s' / 2 ^ p % 256) ∧ p + 8 ≤ sTop s'
    rw [htop]
    simp only [Nm.adds] at hp
    split at hp
    · next hh =>
      obtain ⟨h1, h2, h3⟩ := hh
      rw [List.getElem?_eq_getElem h3] at hp
      have hp := Option.some.inj hp
      have e : p = 64 + (q + 8 * ((p - (64 + q)) / 8)) := by omega
      refine ⟨?_, by omega⟩
      have h4 : s' / 2 ^ p = valB bs / 2 ^ (8 * ((p - (64 + q)) / 8)) := by
        conv => lhs; rw [e, hat, hdiv, Nat.pow_add, ← Nat.div_div_eq_div_mul, Nat.add_mul_div_right _ _ (Nat.two_pow_pos _), Nat.div_eq_of_lt hAq, Nat.zero_add]
      rw [h4, valB_get bs _ h3, ← hp]
      simp
    · obtain ⟨h1, h2⟩ := h.str p b hp
      rw [hL] at h2
      rw [hold p (hp64 p b hp) h2]
      exact ⟨h1, by omega⟩
  · intro p b hp
    simp only [Nm.adds] at hp
    split at hp
    · next hh => omega
    · exact hp64 p b hp
  · intro i hi
    simp only [Nm.adds]
    have e1 : 64 + q + 8 * i - (64 + q) = 8 * i := by omega
    rw [e1, if_pos ⟨by omega, by omega, by omega⟩]
    have e2 : 8 * i / 8 = i := by omega
    rw [e2, List.getElem?_eq_getElem hi]
theorem Rel.adds {N : Nm} {c : Core} {w : World} (h : Rel N c w) {x y : Nat} (hb : x % 65536 + y % 65536 < 65536) (ht : sTop c.s < 8796093022208) :
    Rel (N.adds (sTop c.s) (bytesOf c.s x ++ bytesOf c.s y)) ⟨c.m, c.t, catS c.s x y, c.d⟩ w ∧ Ext N (N.adds (sTop c.s) (bytesOf c.s x ++ bytesOf c.s y)) ∧
    (∀ i (hi : i < (bytesOf c.s x ++ bytesOf c.s y).length), (N.adds (sTop c.s) (bytesOf c.s x ++ bytesOf c.s y)).st (sTop c.s + 8 * i) = some (bytesOf c.s x ++ bytesOf c.s y)[i]) :=
  h.addB (by rw [List.length_append, bytesOf_len, bytesOf_len]; omega) (catS_eq c.s x y)
end Go.Proofs.YtaekfgbfpfecdaaGreat.VM

/- Strings joined, run through; rows cleared; as the machine has it and as the model has it; no conditions but those that each theorem names. -/
namespace Go.Proofs.YtaekfgbfpfecdaaGreat.VM
open Go
set_option linter.unusedVariables false
set_option linter.unusedSimpArgs false
variable {P : Program} [Df]
set_option linter.unusedSectionVars false

theorem run_v' {w w' : World} {s : Sem Value} {v : Value} (h : s.run P w = .ok v w') : (do pure (Next.value (← s)) : Sem Next).run P w = .ok (.value v) w' := by
  simp only [Sem.run_bind, h, Result.andThen_ok, Sem.run_pure]
theorem cat_ok {ops : Array Oper} {i : Nat} {o : Oper} (ho : ops[i]? = some o) (hg : o.guard = none) {I : FI} {t t' : TypeId} {X Y : Operand} (hop : o.op = .binOp .add t X Y t') {env : Env} {lo : Lo} {c : Core}
    {x y : Nat} {f1 f2 : Bool} (hx : evO env X = some (.n (.one .str) f1 x)) (hy : evO env Y = some (.n (.one .str) f2 y)) :
    Def3 (fun k => denCat I o.dst x y env lo c k) (Sound1 P ops i I.nt env lo c) := by
  simp only [denCat, force_eq, lg_eq]
  have en : Nat.add (strLen x) (strLen y) = x % 65536 + y % 65536 := by rw [strLen_eq, strLen_eq]; rfl
  rw [en]
  cases hb : (cond (Nat.blt (x % 65536 + y % 65536) 65536) (Nat.blt (sTop c.s) 8796093022208) false) with
  | false => exact .inl fun k => rfl
  | true =>
    obtain ⟨b1, b2⟩ := condT hb
    rw [blt_eq, decide_eq_true_eq] at b1 b2
    simp only [cond_true]
    rcases setK_def I.nt I.forced o.dst none (.n (.one .str) false (Nat.add (Nat.shiftLeft (sTop c.s) 16) (x % 65536 + y % 65536))) env with hd | ⟨env', hd, hset⟩
    · exact .inl fun k => hd _
    · refine .inr ⟨env', lo, _, ?_, fun k => hd _⟩
      intro G N lam a w hok K Q hK
      have hvx := evO_ok hok.pools hok.re hx
      have hvy := evO_ok hok.pools hok.re hy
      simp only [REnt, RSh, RK] at hvx hvy
      obtain ⟨_, l, hl, hvx⟩ := hvx
      obtain ⟨_, m, hm, hvy⟩ := hvy
      have el := hok.rel.bytes hl
      have em := hok.rel.bytes hm
      obtain ⟨hrel, hext, hst⟩ := hok.rel.adds (x := x) (y := y) b1 b2
      rw [← el, ← em] at hrel hext hst
      have sa : (⟨l.toArray⟩ : ByteArray).size = l.length := rfl
      have sb : (⟨m.toArray⟩ : ByteArray).size = m.length := rfl
      have e : (⟨l.toArray⟩ : ByteArray) ++ (⟨m.toArray⟩ : ByteArray) = ⟨(l ++ m).toArray⟩ := ByteArray.ext (by simp)
      have hl1 := hl.1
      have hm1 := hm.1
      have h' : ¬ (9223372036854775807 < (l.length : Int) + (m.length : Int)) := by omega
      have hr : (execOp a.eval o).run P w = .ok (.value (.string ⟨(l ++ m).toArray⟩)) w := by
        have hguard : (eqGuard .add t X Y (.string ⟨l.toArray⟩) (.string ⟨m.toArray⟩)).run P w = .ok () w := guard_ok (by simp) (by simp)
        have hbin : (binOp .add t (.string ⟨l.toArray⟩) (.string ⟨m.toArray⟩)).run P w = .ok (.string ⟨(l ++ m).toArray⟩) w := by
          simp [binOp, Op.stringOp, sa, sb, h', e]
        simp only [execOp, hop, hvx, hvy]
        exact run_v (α := Nat) (runGuard hguard hbin)
      refine wpOp_value ho hg hr (hK _ _ ?_)
      have hok' : OK I.nt G (N.adds (sTop c.s) (l ++ m)) lam env lo ⟨c.m, c.t, catS c.s x y, c.d⟩ a w :=
        ⟨hok.re.mono hext (fun _ _ _ => rfl) (fun i e hi b g o k mo sp hb => hok.re.off i e hi b g o k mo sp hb), hrel, hok.pools.mono hext, fun g b o k mo sp hg hb => hok.off g b o k mo sp hg hb, hok.ing, hok.prot, hok.nt, hok.df⟩
      refine ⟨_, lam, hext, hok'.set hset (fun _ => ?_) (fun s w g h => by cases h) (fun s w h => by cases h), Same.refl G w, Nat.le_refl _⟩
      simp only [REnt, RSh, RK]
      rw [cut16]
      have e1 : (sTop c.s * 65536 + (x % 65536 + y % 65536)) % 65536 = x % 65536 + y % 65536 := by omega
      have e2 : (sTop c.s * 65536 + (x % 65536 + y % 65536)) / 65536 = sTop c.s := by omega
      refine ⟨by omega, l ++ m, ⟨by rw [e1, List.length_append, hl1, hm1], fun j hj => ?_, by rw [e1, e2]; omega⟩, rfl⟩
      rw [e2]
      exact hst j hj

theorem range_ok (hF : Facts P) {ops : Array Oper} {i : Nat} {o : Oper} (ho : ops[i]? = some o) (hg : o.guard = none) {I : FI} {t : TypeId} {x : Operand} (hop : o.op = .range t x) {env : Env} {lo : Lo} {c : Core} {e : Ent} (he : evO env x = some e) :
    Def3 (fun k => denRange I o.dst t e env lo c k) (Sound1 P ops i I.nt env lo c) := by
  unfold denRange
  have f1 := hF.str t
  generalize ty t = r at f1 ⊢
  obtain ⟨td, n⟩ := r
  split
  · next d n' fl h hd htd =>
    cases htd
    have hu := f1 _ rfl
    simp only [newLoc]
    cases hdd : (noLo d lo && noL d env && noG d env && Nat.blt d I.nt) with
    | false => exact .inl fun k => rfl
    | true =>
      refine .inr ⟨_, _, c, ?_, fun k => rfl⟩
      intro G N lam a w hok K Q hK
      have hv := evO_ok hok.pools hok.re he
      simp only [REnt, RSh, RK] at hv
      obtain ⟨_, l, hl, hv⟩ := hv
      have hr : (execOp a.eval o).run P w = .ok (.value (.pointer (some ⟨w.heap.size, 0, none⟩))) { w with heap := w.heap.push (.stringIter ⟨l.toArray⟩ 0) } := by
        have : (Instr.range t (.string ⟨l.toArray⟩)).run P w = .ok (.pointer (some ⟨w.heap.size, 0, none⟩)) { w with heap := w.heap.push (.stringIter ⟨l.toArray⟩ 0) } := by
          simp only [Instr.range, Sem.run_bind, run_underlying hu w, Result.andThen_ok, Sem.run_pure]
          rfl
        simp only [execOp, hop, hv]
        exact run_v' this
      refine wpOp_value ho hg hr (hK _ _ ?_)
      rw [hd]
      refine hok.newLoc rfl hdd ⟨fun l x h => (by cases h), fun q p hqp => ?_⟩ (fun s w g x h => by cases h) (by simp [REnt, upd]) ⟨rfl, rfl⟩
      cases hqp
      exact ⟨l, ⟨hl, Nat.zero_le _⟩, rfl⟩
  · exact .inl fun k => rfl
end Go.Proofs.YtaekfgbfpfecdaaGreat.VM

/- A string run through; rows cleared; as the machine has it and as the model has it; no conditions but those that each theorem names. -/
namespace Go.Proofs.YtaekfgbfpfecdaaGreat.VM
open Go
set_option linter.unusedVariables false
set_option linter.unusedSimpArgs false
variable {P : Program} [Df]
set_option linter.unusedSectionVars false

theorem decode_ascii {s : ByteArray} {i : Nat} {b : UInt8} (h : s[i]? = some b) (hb : b.toNat < 128) : Utf8.decode s i = (b.toNat, 1) := by
  have hi : i < s.size := by
    rcases Nat.lt_or_ge i s.size with hi | hi
    · exact hi
    · rw [getElem?_neg s i (by omega)] at h; cases h
  rw [getElem?_pos s i hi] at h
  have h := Option.some.inj h
  have hg : s.get! (i + 0) = b := by
    rw [← h, Nat.add_zero]
    show s.data[i]! = s.data[i]
    exact getElem!_pos s.data i hi
  unfold Utf8.decode
  simp only [hg]
  rw [if_pos (by omega)]

theorem byte_at {N : Nm} {c : Core} {w : World} (hR : Rel N c w) {x : Nat} {l : List UInt8} (hl : StrAt N x l) {i : Nat} (hi : i < l.length) :
    Nat.land (Nat.shiftRight c.s (Nat.add (strAt x) (Nat.shiftLeft i 3))) 255 = l[i].toNat ∧ (⟨l.toArray⟩ : ByteArray)[i]? = some l[i] := by
  have h1 := (hR.str _ _ (hl.2.1 i hi)).1
  have e2 : Nat.shiftLeft i 3 = 8 * i := by
    have : Nat.shiftLeft i 3 = i <<< 3 := rfl
    rw [this, Nat.shiftLeft_eq]; omega
  have e3 : Nat.land (Nat.shiftRight c.s (Nat.add (strAt x) (Nat.shiftLeft i 3))) 255 = (c.s >>> (strAt x + Nat.shiftLeft i 3)) &&& (2 ^ 8 - 1) := rfl
  refine ⟨?_, ?_⟩
  · rw [e3, e2, strAt_eq, Nat.and_two_pow_sub_one_eq_mod, Nat.shiftRight_eq_div_pow, h1]
    rw [UInt8.toNat_ofNat']; omega
  · have hs : i < (⟨l.toArray⟩ : ByteArray).size := by simpa [ByteArray.size] using hi
    rw [getElem?_pos (⟨l.toArray⟩ : ByteArray) i hs]
    rfl

theorem next_ok {ops : Array Oper} {i : Nat} {o : Oper} (ho : ops[i]? = some o) (hg : o.guard = none) {I : FI} {x : Operand} (hop : o.op = .next x true) {env : Env} {lo : Lo} {c : Core} {e : Ent} (he : evO env x = some e) :
    Def3 (fun k => denNext I o.dst e env lo c k) (Sound1 P ops i I.nt env lo c) := by
  unfold denNext
  split
  · next q =>
    split
    · next h p hit =>
      cases hb : Nat.blt p (strLen h) with
      | false =>
        simp only [cond_false]
        rcases setK_def I.nt I.forced o.dst none (.tup [.b false]) env with hd | ⟨env', hd, hset⟩
        · exact .inl fun k => hd _
        · refine .inr ⟨env', lo, c, ?_, fun k => hd _⟩
          intro G N lam a w hok K Q hK
          have hv := evO_ok hok.pools hok.re he
          simp only [REnt] at hv
          obtain ⟨bs, ⟨hbs, hple⟩, hw⟩ := hok.re.itr _ _ _ hit
          have hsz : (⟨bs.toArray⟩ : ByteArray).size = bs.length := rfl
          have hge : ¬ p < bs.length := by
            intro hlt
            rw [hbs.1, ← strLen_eq] at hlt
            rw [blt_eq, decide_eq_false_iff_not] at hb
            exact hb hlt
          have hr : (execOp a.eval o).run P w = .ok (.value (.tuple #[.bool false])) w := by
            have : (Instr.next (.pointer (some ⟨lam q, 0, none⟩)) true o.type).run P w = .ok (.tuple #[.bool false]) w := by
              simp [Instr.next, getObj, Sem.run, hw, hsz, hge]
            simp only [execOp, hop, hv]
            exact run_v' this
          refine wpOp_value ho hg hr (hK _ _ (hok.set hset (fun _ => ?_) (fun s w g h => by cases h) (fun s w h => by cases h)).after)
          simp only [REnt]
          exact ⟨_, rfl, by simp [REnts, REnt]⟩
      | true =>
        simp only [cond_true, force_eq]
        cases hb2 : Nat.blt (Nat.land (Nat.shiftRight c.s (Nat.add (strAt h) (Nat.shiftLeft p 3))) 255) 128 with
        | false => exact .inl fun k => rfl
        | true =>
          simp only [cond_true]
          rcases setK_def I.nt I.forced o.dst none (.tup [.b true, .n (.one (.int .i64)) true p, .n (.one (.int .i32)) true (Nat.land (Nat.shiftRight c.s (Nat.add (strAt h) (Nat.shiftLeft p 3))) 255)]) env with hd | ⟨env', hd, hset⟩
          · exact .inl fun k => hd _
          · refine .inr ⟨env', (q, some (.itr h (Nat.succ p))) :: lo, c, ?_, fun k => hd _⟩
            intro G N lam a w hok K Q hK
            have hv := evO_ok hok.pools hok.re he
            simp only [REnt] at hv
            obtain ⟨bs, ⟨hbs, hple⟩, hw⟩ := hok.re.itr _ _ _ hit
            have hsz : (⟨bs.toArray⟩ : ByteArray).size = bs.length := rfl
            have hlt : p < bs.length := by
              rw [hbs.1, ← strLen_eq]
              rw [blt_eq, decide_eq_true_eq] at hb
              exact hb
            obtain ⟨q1, q2⟩ := byte_at hok.rel hbs hlt
            rw [q1] at hb2 hset
            rw [blt_eq, decide_eq_true_eq] at hb2
            have hdec := decode_ascii q2 hb2
            have hr : (execOp a.eval o).run P w = .ok (.value (.tuple #[.bool true, .int .i64 (p : Int), .int .i32 (bs[p].toNat : Int)])) { w with heap := w.heap.setIfInBounds (lam q) (.stringIter ⟨bs.toArray⟩ (p + 1)) } := by
              have : (Instr.next (.pointer (some ⟨lam q, 0, none⟩)) true o.type).run P w = .ok (.tuple #[.bool true, .int .i64 (p : Int), .int .i32 (bs[p].toNat : Int)]) { w with heap := w.heap.setIfInBounds (lam q) (.stringIter ⟨bs.toArray⟩ (p + 1)) } := by
                simp [Instr.next, getObj, setObj, Sem.run, hw, hsz, hlt, hdec, goInt]
              simp only [execOp, hop, hv]
              exact run_v' this
            refine wpOp_value ho hg hr (hK _ _ ?_)
            have hother : ∀ g, g ≠ lam q → (w.heap.setIfInBounds (lam q) (.stringIter ⟨bs.toArray⟩ (p + 1)))[g]? = w.heap[g]? := fun g hg => Array.getElem?_setIfInBounds_ne (Ne.symm hg)
            have hhere : (w.heap.setIfInBounds (lam q) (.stringIter ⟨bs.toArray⟩ (p + 1)))[lam q]? = some (.stringIter ⟨bs.toArray⟩ (p + 1)) := by
              have := (Array.getElem?_eq_some_iff.1 hw).1
              simp [this]
            have hne : ∀ j e, getA lo j = some e → j ≠ q → lam j ≠ lam q := fun j e hj hjq he => hjq (hok.re.inj j q e _ hj hit he)
            have hok' : OK I.nt G N lam env ((q, some (.itr h (Nat.succ p))) :: lo) c a { w with heap := w.heap.setIfInBounds (lam q) (.stringIter ⟨bs.toArray⟩ (p + 1)) } := by
              refine ⟨⟨hok.re.slot, hok.re.grd, ?_, ?_, ?_, ?_⟩, hok.rel.keep fun b g o k mo sp hb => hother g (hok.re.off q _ hit b g o k mo sp hb), hok.pools, hok.off, hok.ing.le (by simp), ?_, hok.nt, hok.df⟩
              · intro j l2 x2 hj
                rw [getA_cons] at hj
                split at hj
                · cases hj
                · next hqj =>
                  show ∃ arr ty, (w.heap.setIfInBounds (lam q) (.stringIter ⟨bs.toArray⟩ (p + 1)))[lam j]? = _ ∧ _
                  rw [hother _ (hne j _ hj (Ne.symm hqj))]
                  exact hok.re.blk j l2 x2 hj
              · intro j h2 p2' hj
                rw [getA_cons] at hj
                show ∃ bs', (StrAt N h2 bs' ∧ p2' ≤ bs'.length) ∧ (w.heap.setIfInBounds (lam q) (.stringIter ⟨bs.toArray⟩ (p + 1)))[lam j]? = _
                split at hj
                · next hqj =>
                  subst hqj
                  cases hj
                  exact ⟨bs, ⟨hbs, hlt⟩, hhere⟩
                · next hqj =>
                  rw [hother _ (hne j _ hj (Ne.symm hqj))]
                  exact hok.re.itr j h2 p2' hj
              · intro j e hj
                rw [getA_cons] at hj
                split at hj
                · next hqj => subst hqj; exact hok.re.off _ _ hit
                · exact hok.re.off j e hj
              · intro j j' e e' hj hj' he
                rw [getA_cons] at hj hj'
                have h1 : ∃ e, getA lo j = some e := by
                  split at hj
                  · next h => subst h; exact ⟨_, hit⟩
                  · exact ⟨_, hj⟩
                have h2 : ∃ e, getA lo j' = some e := by
                  split at hj'
                  · next h => subst h; exact ⟨_, hit⟩
                  · exact ⟨_, hj'⟩
                obtain ⟨e1, h1⟩ := h1
                obtain ⟨e2, h2⟩ := h2
                exact hok.re.inj _ _ _ _ h1 h2 he
              · intro j e hj
                rw [getA_cons] at hj
                split at hj
                · next hqj => subst hqj; exact hok.prot _ _ hit
                · exact hok.prot j e hj
            refine ⟨N, lam, Ext.refl N, hok'.set hset (fun _ => ?_) (fun s w g h => by cases h) (fun s w h => by cases h), ⟨⟨rfl, rfl⟩, fun g hg => hother g fun e => hok.prot q _ hit (e ▸ hg)⟩, by simp⟩
            simp only [REnt]
            have hbl := hbs.1
            have hb16 : h % 65536 < 65536 := Nat.mod_lt _ (by omega)
            refine ⟨_, rfl, ?_⟩
            simp only [REnts]
            refine ⟨_, _, rfl, by simp only [REnt], _, _, rfl, RLen (by omega), _, _, rfl, ?_, rfl⟩
            exact RInt (k := .i32) (by simp only [limK]; omega)
    · exact .inl fun k => rfl
  · exact .inl fun k => rfl
end Go.Proofs.YtaekfgbfpfecdaaGreat.VM

/- Rows cleared; as the machine has it and as the model has it; no conditions but those that each theorem names. -/
namespace Go.Proofs.YtaekfgbfpfecdaaGreat.VM
open Go
set_option linter.unusedVariables false
set_option linter.unusedSimpArgs false
variable {P : Program} [Df]
set_option linter.unusedSectionVars false

/-- Cells of memory are written. -/
theorem OK.wrote {nt : Nat} {G : Nat → Prop} {N : Nm} {lam : Nat → Nat} {env : Env} {lo : Lo} {c : Core} {a : Act} {w w' : World} (h : OK nt G N lam env lo c a w) {l : List K} {mo : Bool} {x g o : Nat} (r : RP N l mo x g o) (hl : 0 < l.length) (ha : alive c mo x l.length)
    {y : Nat} {vs : List Value} (hy : y < 2 ^ (64 * l.length)) (hv : RL N l y vs) (hw : Wrote w w' g o vs) :
    OK nt G N lam env lo ⟨wrv c.m x l.length y, c.t, c.s, c.d⟩ a w' ∧ Same G w w' ∧ w.heap.size ≤ w'.heap.size := by
  have hg : ¬ Gl G lam lo g := by
    intro hg
    obtain ⟨a, arr, ty, rfl, ha1, hgw, hsz, ht, hrow⟩ := r.row h.rel hl ha
    obtain ⟨⟨m', sp', h1⟩, _⟩ := hrow 0 hl
    exact h.off' g _ _ _ _ _ hg h1
  have hsame := hw.same hg
  exact ⟨⟨h.re.world fun j e hj => hsame.2 _ (.inr ⟨j, e, hj, rfl⟩), h.rel.put r hl ha hy hv hw, h.pools, h.off, h.ing.le (Nat.le_of_eq hw.size.symm), h.prot, h.nt, h.df⟩, ⟨hsame.1, fun g hg => hsame.2 g (.inl hg)⟩, Nat.le_of_eq hw.size.symm⟩

theorem kat_add (l : List K) (i j : Nat) : kat l (i * l.length + j) = kat l j := by
  unfold kat
  rw [Nat.add_comm, Nat.add_mul_mod_self_right]
/-- Part of what a slice has. -/
theorem Lv.part {N : Nm} {l : List K} {a g o cap ex : Nat} (hl : 0 < l.length) (h : ∀ j, j < cap * l.length → Lv N (a + j) g (o + j) (kat l j) ex) {i n : Nat} (hin : i + n ≤ cap) :
    RP N (repK n l) true (64 * (a + i * l.length)) g (o + i * l.length) := by
  refine ⟨_, rfl, fun j hj => ?_⟩
  rw [repK_len] at hj
  have hle : i * l.length + n * l.length ≤ cap * l.length := by
    rw [← Nat.add_mul]
    exact Nat.mul_le_mul_right _ hin
  have h1 := h (i * l.length + j) (by omega)
  have h2 := (rep_kat (n := n) hl hj).1
  rw [List.getElem?_eq_getElem (by rw [repK_len]; exact hj)] at h2
  rw [Option.some.inj h2]
  rw [kat_add] at h1
  rw [Nat.add_assoc, Nat.add_assoc]
  rcases h1 with h1 | ⟨m, sp, h1, _⟩
  · exact .inr ⟨rfl, h1⟩
  · exact .inl ⟨m, sp, h1, fun _ => rfl⟩
theorem alive_of {c : Core} {x n : Nat} {mo : Bool} (h : Nat.beq (deadBits c.d x n) 0 = true) : alive c mo x n := fun _ => deadBits_ok h

theorem run_clear {w w' : World} {t el ty' : TypeId} {i : TypeInfo} {z : Value} (ht : P.underlying t = some (.slice el)) (hi : P.info? el = some i) (hz : i.zero = some z) {a : Addr} {n c : Nat} (hn : 0 < n)
    (hst : (storeCells a (Builtin.zeroCells z.cells n).toList 0).run P w = .ok () w') : (Builtin.clear_ #[t] ty' #[.slice (some a) n c]).run P w = .ok (.tuple #[]) w' := by
  obtain ⟨n, rfl⟩ : ∃ m, n = m + 1 := ⟨n - 1, by omega⟩
  simp [Builtin.clear_, run_underlying ht, zeroValue, typeInfo, hi, hz, hst]
theorem run_clear0 {w : World} {t el ty' : TypeId} (ht : P.underlying t = some (.slice el)) {a : Option Addr} {c : Nat} : (Builtin.clear_ #[t] ty' #[.slice a 0 c]).run P w = .ok (.tuple #[]) w := by
  cases a <;> simp [Builtin.clear_, run_underlying ht]

theorem clear_ok (hF : Facts P) {ops : Array Oper} {i : Nat} {o : Oper} (ho : ops[i]? = some o) (hg : o.guard = none) {I : FI} {cl : Call} (hop : o.op = .call cl) (hcl : cl.callee = .builtin .clear) {s : Operand} (hs : cl.args.toList = [s]) {env : Env} {lo : Lo} {c : Core} :
    Def3 (fun k => denClear I o.dst cl.argTypes.toList s env lo c k) (Sound1 P ops i I.nt env lo c) := by
  unfold denClear
  split
  · next t hts =>
    have f1 := hF.sli t
    generalize ty t = r at f1 ⊢
    obtain ⟨td, n⟩ := r
    cases td <;> first | exact .inl fun k => rfl | skip
    next el =>
    have hu := f1 _ _ rfl
    simp only
    cases q : (zeroOk el && Nat.blt 0 (lenK (lay el)) && Nat.beq (ty el).size (lenK (lay el))) with
    | false => exact .inl fun k => rfl
    | true =>
    simp only [Bool.and_eq_true, blt_eq, decide_eq_true_eq, lenK_eq] at q
    obtain ⟨⟨q1, hl⟩, q3⟩ := q
    have q3 := Nat.eq_of_beq_eq_true q3
    obtain ⟨it, z, hit, hz, hzl, _⟩ := hF.zero el q1
    simp only [cond_true]
    split
    · next l fl x hev =>
      cases hb : beqKs l (lay el) with
      | false => exact .inl fun k => rfl
      | true =>
      have hb := beqKs_eq hb
      subst hb
      simp only [cond_true, join_eq, ap_of 0 _ [] _ rfl]
      have hexec : ∀ {a : Act} {w w' : World} {v : Value}, a.eval s = v → (Builtin.clear_ #[t] o.type #[v]).run P w = .ok (.tuple #[]) w' → (execOp a.eval o).run P w = .ok (.value (.tuple #[])) w' := by
        intro a w w' v hv hr
        have e1 : cl.args.map a.eval = #[v] := by
          have : cl.args = #[s] := by rw [← Array.toArray_toList (xs := cl.args), hs]
          rw [this]; simp [hv]
        have e2 : cl.argTypes = #[t] := by rw [← Array.toArray_toList (xs := cl.argTypes), hts]
        simp only [execOp, hop, resolve, hcl, Sem.run_bind, Sem.run_pure, Result.andThen_ok, invoke, e1, e2]
        show (do pure (Next.value (← Builtin.clear_ #[t] o.type #[v])) : Sem Next).run P w = _
        exact run_v' hr
      cases h0 : Nat.beq (sln x) 0 with
      | true =>
        simp only [cond_true]
        rcases setK_def I.nt I.forced o.dst none (.tup []) env with hd | ⟨env', hd, hset⟩
        · exact .inl fun k => hd _
        · refine .inr ⟨env', lo, c, ?_, fun k => hd _⟩
          intro G N lam a w hok K Q hK
          have hv := evO_ok hok.pools hok.re hev
          simp only [REnt, RSh] at hv
          have h0 := Nat.eq_of_beq_eq_true h0
          have hv0 : ∃ aa cc, a.eval s = .slice aa 0 cc := by
            rcases hv.2 with ⟨_, h⟩ | ⟨_, aa, cc, h⟩ | ⟨_, g, o, cc, _, _, h, _⟩
            · exact ⟨_, _, h⟩
            · exact ⟨_, _, h⟩
            · rw [h0] at h; exact ⟨_, _, h⟩
          obtain ⟨aa, cc, hv0⟩ := hv0
          refine wpOp_value ho hg (hexec hv0 (run_clear0 hu)) (hK _ _ (hok.set hset (fun _ => ?_) (fun s w g h => by cases h) (fun s w h => by cases h)).after)
          simp only [REnt]
          exact ⟨_, rfl, rfl⟩
      | false =>
        simp only [cond_false]
        cases hd0 : Nat.beq (deadBits c.d (slp x) (Nat.mul (sln x) (lenK (lay el)))) 0 with
        | false => exact .inl fun k => rfl
        | true =>
          simp only [cond_true, wrK_eq]
          rcases setK_def I.nt I.forced o.dst none (.tup []) env with hd | ⟨env', hd, hset⟩
          · exact .inl fun k => hd _
          · refine .inr ⟨env', lo, _, ?_, fun k => hd _⟩
            intro G N lam a w hok K Q hK
            have hv := evO_ok hok.pools hok.re hev
            simp only [REnt, RSh] at hv
            have h0 : sln x ≠ 0 := fun e => by rw [e] at h0; cases h0
            rcases hv.2 with ⟨rfl, h⟩ | ⟨rfl, aa, cc, h⟩ | ⟨aa, g, off, cc, h1, h2, h3, h4, h5, h6, h7, h8, h9⟩
            · exact absurd rfl h0
            · exact absurd rfl h0
            have hrp := Lv.part hl h7 (i := 0) (n := sln x) (by omega)
            rw [Nat.zero_mul, Nat.add_zero, Nat.add_zero, ← h1] at hrp
            have hrep := repK_len (lay el) (sln x)
            have hpos : 0 < sln x * (lay el).length := Nat.mul_pos (by omega) hl
            have elen : Nat.mul (sln x) (lenK (lay el)) = (repK (sln x) (lay el)).length := by rw [lenK_eq, hrep]; rfl
            rw [elen] at hd0
            have hal : alive c true (slp x) (repK (sln x) (lay el)).length := alive_of hd0
            obtain ⟨a0, arr, ty', e0, _, hw, hsz, _, _⟩ := hrp.row hok.rel (by omega) hal
            have hzr := zero_row (hzl N c w hok.rel) hl (sln x)
            have hzc : z.cells.size = (lay el).length := (hzl N c w hok.rel).1
            have hzeq : (Builtin.zeroCells z.cells (sln x)).toList = ((Array.range (sln x * (lay el).length)).map (z.cells[· % (lay el).length]!)).toList := by
              simp only [Builtin.zeroCells, hzc]
            obtain ⟨w', hr, hwr⟩ := store_cells (P := P) g off (Builtin.zeroCells z.cells (sln x)).toList 0 w arr ty' hw (by
              have := hzr.1
              rw [hzeq]; omega) (by
              intro u hu
              rw [hzeq] at hu
              obtain ⟨j, hj, rfl⟩ := List.mem_iff_getElem.1 hu
              exact (hzr.2 j (by have := hzr.1; omega) hj).oneCell cst_one)
            have hwr' : Wrote w w' g off (Builtin.zeroCells z.cells (sln x)).toList := hwr
            refine wpOp_value ho hg (hexec h3 (run_clear hu hit hz (by omega) hr)) (hK _ _ ?_)
            obtain ⟨hok', hs1, hs2⟩ := hok.wrote hrp (by omega) hal (Nat.two_pow_pos _) (by rw [hzeq]; exact hzr) hwr'
            rw [elen]
            refine ⟨N, lam, Ext.refl N, hok'.set hset (fun _ => ?_) (fun s w g h => by cases h) (fun s w h => by cases h), hs1, hs2⟩
            simp only [REnt]
            exact ⟨_, rfl, rfl⟩
    · exact .inl fun k => rfl
  · exact .inl fun k => rfl
end Go.Proofs.YtaekfgbfpfecdaaGreat.VM

/- Numbers handed on in a shape; lanes that are given up; rows that grow where they lie; no conditions but those that each theorem names. -/
namespace Go.Proofs.YtaekfgbfpfecdaaGreat.VM
open Go
set_option linter.unusedVariables false
set_option linter.unusedSimpArgs false
variable {P : Program} [Df]
set_option linter.unusedSectionVars false

theorem RPv.weaken {N : Nm} {l : List K} {m m' : Bool} (h : m = true → m' = true) {x : Nat} {v : Value} (r : RPv N l m x v) : RPv N l m' x v := by
  rcases r with r | ⟨h0, g, o, rfl, a, ha, hj⟩
  · exact .inl r
  · refine .inr ⟨h0, g, o, rfl, a, ha, fun j hl => ?_⟩
    rcases hj j hl with ⟨m1, sp, h1, h2⟩ | ⟨h1, h2⟩
    · exact .inl ⟨m1, sp, h1, fun e => h (h2 e)⟩
    · exact .inr ⟨h h1, h2⟩
theorem fitSh_ok {N : Nm} {a b : Sh} (h : fitSh a b = true) {x : Nat} {v : Value} (hv : RSh N a x v) : RSh N b x v := by
  cases a <;> cases b <;> simp only [fitSh, Bool.false_eq_true] at h <;> simp only [RSh] at hv ⊢
  case one.one k k' => exact ⟨hv.1, fitK_ok h hv.2⟩
  case agg.agg l l' =>
    obtain ⟨h1, vs, rfl, h2⟩ := hv
    have h3 := fitKs_ok h h2
    have : l'.length = l.length := by have := h2.1; have := h3.1; omega
    exact ⟨by rw [this]; exact h1, vs, rfl, h3⟩
  case ptr.ptr l m n l' m' n' =>
    simp only [Bool.and_eq_true, Bool.or_eq_true, Bool.not_eq_true'] at h
    rw [← beqKs_eq h.1.1]
    refine ⟨hv.1, hv.2.1.weaken fun e => ?_, fun e => hv.2.2 ?_⟩
    · rcases h.1.2 with h1 | h1
      · exact h1
      · rw [e] at h1; cases h1
    · rcases h.2 with h1 | h1
      · exact h1
      · rw [e] at h1; cases h1
  case sli.sli l l' => rw [← beqKs_eq h]; exact hv
theorem toN_ok {N : Nm} {lam : Nat → Nat} {s : Sh} {e : Ent} {fl : Bool} {x : Nat} {v : Value} (h : toN s e = some (fl, x)) (hv : REnt N lam e v) : RSh N s x v := by
  unfold toN at h
  split at h
  · obtain ⟨h1, h⟩ := cond_some h
    cases h
    simp only [REnt] at hv
    exact fitSh_ok h1 hv
  · next b =>
    simp only [REnt] at hv
    subst hv
    split at h
    · cases h
      simp only [RSh, RK]
      cases b <;> exact ⟨by decide, rfl, by decide⟩
    · cases h
  · next i =>
    simp only [REnt] at hv
    subst hv
    split at h
    · obtain ⟨h1, h⟩ := cond_some h
      cases h
      rw [Nat.eq_of_beq_eq_true h1]
      show _ ∧ _ ∧ _
      exact ⟨by decide, rfl, rfl⟩
    · cases h
  · next i =>
    simp only [REnt] at hv
    subst hv
    split at h
    · obtain ⟨h1, h⟩ := cond_some h
      cases h
      rw [Nat.eq_of_beq_eq_true h1]
      simp only [RSh]
      exact ⟨by decide, .inl ⟨rfl, rfl⟩, fun e => by cases e⟩
    · obtain ⟨h1, h⟩ := cond_some h
      cases h
      rw [Nat.eq_of_beq_eq_true h1]
      simp only [RSh]
      exact ⟨by decide, .inl ⟨rfl, rfl⟩⟩
    · obtain ⟨h1, h⟩ := cond_some h
      cases h
      rw [Nat.eq_of_beq_eq_true h1]
      simp only [RSh, RK]
      exact ⟨by decide, .inl ⟨rfl, rfl⟩⟩
    · cases h
  · cases h

/-! ### Lanes given up -/
def Nm.kill (N : Nm) (a n : Nat) : Nm := { N with ln := fun b => if a ≤ b ∧ b < a + n then some .dead else N.ln b }
theorem kill_get {N : Nm} {a n b : Nat} {g o : Nat} {k : K} {mo : Bool} {sp : Nat} (h : (N.kill a n).ln b = some (.cell g o k mo sp)) : N.ln b = some (.cell g o k mo sp) ∧ ¬ (a ≤ b ∧ b < a + n) := by
  simp only [Nm.kill] at h
  split at h
  · cases h
  · next q => exact ⟨h, q⟩
theorem ext_kill {N : Nm} {a n : Nat} (h : ∀ j, j < n → N.ln (a + j) = some .dead ∨ ∃ g o k sp, N.ln (a + j) = some (.cell g o k true sp)) : Ext N (N.kill a n) := by
  refine ⟨fun b i hb => ?_, fun _ _ h => h⟩
  simp only [Nm.kill]
  split
  · next q =>
    obtain ⟨j, rfl⟩ : ∃ j, b = a + j := ⟨b - a, by omega⟩
    rcases h j (by omega) with h1 | ⟨g, o, k, sp, h1⟩
    · rw [h1] at hb; cases hb; exact .inl rfl
    · rw [h1] at hb; cases hb; exact .inr ⟨rfl, _, _, _, _, rfl⟩
  · exact .inl hb
theorem Rel.kill {N : Nm} {c : Core} {w : World} (h : Rel N c w) {a n d : Nat} (hext : Ext N (N.kill a n)) (h1 : 1 ≤ a) (h2 : a + n ≤ c.t) (hd : ∀ b, (c.d.testBit b = true ∨ (a ≤ b ∧ b < a + n)) → d.testBit b = true) :
    Rel (N.kill a n) ⟨c.m, c.t, c.s, d⟩ w := by
  refine ⟨?_, ?_, ?_, ?_, ?_, h.mlt, h.tl, h.str, h.spos⟩
  · intro b g o k mo sp hb
    obtain ⟨arr, ty, v, q1, q2, q3, q4⟩ := h.cell b g o k mo sp (kill_get hb).1
    exact ⟨arr, ty, v, q1, q2, q3.mono hext, q4⟩
  · intro b b' g o k mo sp k' mo' sp' hb hb'
    exact h.inj _ _ _ _ _ _ _ _ _ _ (kill_get hb).1 (kill_get hb').1
  · intro b b' g o k mo sp o' k' mo' sp' hb hb' hlt
    exact h.spare _ _ _ _ _ _ _ _ _ _ _ (kill_get hb).1 (kill_get hb').1 hlt
  · intro b hb
    simp only [Nm.kill] at hb
    split at hb
    · next q => exact hd b (.inr q)
    · exact hd b (.inl (h.dead b hb))
  · intro b i hb
    simp only [Nm.kill] at hb
    split at hb
    · next q => exact ⟨by omega, by show b < c.t; omega⟩
    · exact h.top b i hb
/-- Cells that nobody stands for are written. -/
theorem Rel.spared {N : Nm} {c : Core} {w w' : World} (h : Rel N c w) {g o : Nat} {vs : List Value} (hw : Wrote w w' g o vs) (hf : ∀ b o' k mo sp, N.ln b = some (.cell g o' k mo sp) → o' < o ∨ o + vs.length ≤ o') : Rel N c w' := by
  refine ⟨?_, h.inj, h.spare, h.dead, h.top, h.mlt, h.tl, h.str, h.spos⟩
  intro b gb ob k mo sp hb
  obtain ⟨arr, ty, v, q1, q2, q3, q4⟩ := h.cell b gb ob k mo sp hb
  by_cases hg : gb = g
  · subst hg
    obtain ⟨arr', e1, e2, e3, e4⟩ := hw.here _ _ _ q1
    exact ⟨arr', ty, v, e1, by rw [e4 ob (hf b ob k mo sp hb)]; exact q2, q3, by omega⟩
  · exact ⟨arr, ty, v, by rw [hw.other _ hg]; exact q1, q2, q3, q4⟩
/-- A row of a block that is there comes to stand in new lanes. -/
theorem Rel.lay {N : Nm} {c : Core} {w : World} (h : Rel N c w) {g o : Nat} {arr : Array Value} {ty : TypeId} (hw : w.heap[g]? = some (.cells arr ty (0, 0))) {n : Nat} {kf : Nat → K} {y : Nat} (mo : Bool) {sp : Nat} (hs : o + n + sp ≤ arr.size)
    (hk : ∀ j, j < n → ∃ v, arr[o + j]? = some v ∧ RK N (kf j) (lane y j) v) {m' : Nat} (hm : ∀ b, 1 ≤ b → lane m' b = if b < c.t then lane c.m b else lane y (b - c.t)) (hmlt : m' < 2 ^ (64 * (c.t + n))) (htl : c.t + n < 4194304)
    (hf : ∀ b o' k m s, N.ln b = some (.cell g o' k m s) → (o' < o ∧ o' + s < o) ∨ o + n + sp ≤ o') :
    Rel (N.add c.t n kf g o mo sp) ⟨m', c.t + n, c.s, c.d⟩ w := by
  have hext := ext_add h n kf g o mo sp
  have hin : ∀ a i, (N.add c.t n kf g o mo sp).ln a = some i → (c.t ≤ a ∧ a < c.t + n ∧ i = .cell g (o + (a - c.t)) (kf (a - c.t)) mo (if a + 1 = c.t + n then sp else 0)) ∨ (a < c.t ∧ N.ln a = some i) := by
    intro a i ha
    simp only [Nm.add] at ha
    split at ha
    · next hh => cases ha; exact .inl ⟨hh.1, hh.2, rfl⟩
    · exact .inr ⟨h.lt_top ha, ha⟩
  refine ⟨?_, ?_, ?_, ?_, ?_, hmlt, ⟨by have := h.tl.1; show 1 ≤ c.t + n; omega, htl⟩, h.str, h.spos⟩
  · intro a g' o' k m sp' ha
    rcases hin a _ ha with ⟨p1, p2, p3⟩ | ⟨p1, p2⟩
    · injection p3 with q1 q2 q3 q4 q5
      subst q1 q2 q3 q4 q5
      obtain ⟨v, hv1, hv2⟩ := hk (a - c.t) (by omega)
      refine ⟨arr, ty, v, hw, hv1, ?_, by split <;> omega⟩
      show RK _ _ (lane m' a) v
      rw [hm a (by have := h.tl.1; omega), if_neg (by omega)]
      exact hv2.mono hext
    · obtain ⟨arr', ty', v, q1, q2, q3, q4⟩ := h.cell a g' o' k m sp' p2
      refine ⟨arr', ty', v, q1, q2, ?_, q4⟩
      show RK _ _ (lane m' a) v
      rw [hm a (h.top _ _ p2).1, if_pos p1]
      exact q3.mono hext
  · intro a a' g' o' k m s k' m' s' ha ha'
    rcases hin a _ ha with ⟨p1, p2, p3⟩ | ⟨p1, p2⟩
    · injection p3 with q1 q2 q3 q4 q5
      rcases hin a' _ ha' with ⟨r1, r2, r3⟩ | ⟨r1, r2⟩
      · injection r3 with u1 u2 u3 u4 u5
        omega
      · subst q1
        have := hf _ _ _ _ _ r2
        omega
    · rcases hin a' _ ha' with ⟨r1, r2, r3⟩ | ⟨r1, r2⟩
      · injection r3 with u1 u2 u3 u4 u5
        subst u1
        have := hf _ _ _ _ _ p2
        omega
      · exact h.inj _ _ _ _ _ _ _ _ _ _ p2 r2
  · intro a a' g' o' k m s o2 k' m' s' ha ha' hlt
    rcases hin a _ ha with ⟨p1, p2, p3⟩ | ⟨p1, p2⟩
    · injection p3 with q1 q2 q3 q4 q5
      rcases hin a' _ ha' with ⟨r1, r2, r3⟩ | ⟨r1, r2⟩
      · injection r3 with u1 u2 u3 u4 u5
        subst q5
        split <;> omega
      · subst q1
        have := hf _ _ _ _ _ r2
        subst q5
        split <;> omega
    · rcases hin a' _ ha' with ⟨r1, r2, r3⟩ | ⟨r1, r2⟩
      · injection r3 with u1 u2 u3 u4 u5
        subst u1
        have := hf _ _ _ _ _ p2
        omega
      · exact h.spare _ _ _ _ _ _ _ _ _ _ _ p2 r2 hlt
  · intro a ha
    rcases hin a _ ha with ⟨p1, p2, p3⟩ | ⟨p1, p2⟩
    · cases p3
    · exact h.dead a p2
  · intro a i ha
    rcases hin a _ ha with ⟨p1, p2, p3⟩ | ⟨p1, p2⟩
    · exact ⟨by have := h.tl.1; omega, p2⟩
    · exact ⟨(h.top _ _ p2).1, by show a < c.t + n; omega⟩

theorem testBit_or' (a b i : Nat) : (Nat.lor a b).testBit i = (a.testBit i || b.testBit i) := Nat.testBit_or a b i
theorem dead_bits (d x n b : Nat) : (Nat.lor d (Nat.shiftLeft (Nat.sub (Nat.shiftLeft 1 n) 1) (Nat.shiftRight x 6))).testBit b = (d.testBit b || (decide (x / 64 ≤ b) && decide (b < x / 64 + n))) := by
  have e1 : Nat.sub (Nat.shiftLeft 1 n) 1 = 2 ^ n - 1 := by
    have : Nat.sub (Nat.shiftLeft 1 n) 1 = 1 <<< n - 1 := rfl
    rw [this, Nat.shiftLeft_eq, Nat.one_mul]
  rw [testBit_or', testBit_shl', e1, Nat.testBit_two_pow_sub_one, shr6]
  congr 1
  by_cases h : x / 64 ≤ b
  · have : (b - x / 64 < n) = (b < x / 64 + n) := by apply propext; omega
    simp [h, this]
  · simp [h]
end Go.Proofs.YtaekfgbfpfecdaaGreat.VM

/- What append does, in the machine and in the model; no conditions but those that each theorem names. -/
namespace Go.Proofs.YtaekfgbfpfecdaaGreat.VM
open Go
set_option linter.unusedVariables false
set_option linter.unusedSimpArgs false
variable {P : Program} [Df]
set_option linter.unusedSectionVars false

theorem run_app0 {w : World} {t ty' el : TypeId} {i : TypeInfo} (ht : P.underlying t = some (.slice el)) (hi : P.info? el = some i) {b : Option Addr} {n c : Nat} (hn : n ≤ c) {a : Option Addr} {c' : Nat} :
    (Builtin.append_ #[t, t] ty' #[.slice b n c, .slice a 0 c']).run P w = .ok (.slice b n c) w := by
  have hf : (Builtin.firstCells i.size 0 (.slice a 0 c')).run P w = .ok #[] w := by
    cases a with
    | none => simp [Builtin.firstCells]
    | some a =>
      have := run_firstCells_some (P := P) w i.size 0 a 0 c' [] (by simp) (by simp)
      simpa using this
  cases b <;> simp [Builtin.append_, run_underlying ht, sizeOf, typeInfo, hi, Builtin.lenOf, hn, hf, storeCells]
theorem run_app_in {w w' : World} {t ty' el : TypeId} {i : TypeInfo} (ht : P.underlying t = some (.slice el)) (hi : P.info? el = some i) {g o sLen sCap : Nat} {a : Addr} {n c : Nat} {news : List Value} (hl : news.length = n * i.size)
    (hnews : ∀ j u, news[j]? = some u → w.cell? (a.add j) = some u) (hroom : sLen + n ≤ sCap) (hst : (storeCells ⟨g, o + sLen * i.size, none⟩ news 0).run P w = .ok () w') :
    (Builtin.append_ #[t, t] ty' #[.slice (some ⟨g, o, none⟩) sLen sCap, .slice (some a) n c]).run P w = .ok (.slice (some ⟨g, o, none⟩) (sLen + n) sCap) w' := by
  have hf := run_firstCells_some (P := P) w i.size n a n c news hl hnews
  simp [Builtin.append_, run_underlying ht, sizeOf, typeInfo, hi, Builtin.lenOf, hroom, hf, add_at, hst]

/-- What is appended. -/
structure Src (N : Nm) (w : World) (l : List K) (n y : Nat) (v : Value) : Prop where
  lt : n < 131072
  val : (n = 0 ∧ ∃ a c, v = .slice a 0 c) ∨ (0 < n ∧ ∃ a cc, ∃ news : List Value, v = .slice (some a) n cc ∧ news.length = n * l.length ∧ (∀ j u, news[j]? = some u → w.cell? (a.add j) = some u) ∧
    RL N (repK n l) y news ∧ y < 2 ^ (64 * (n * l.length)))
theorem sln_zero : sln 0 = 0 := rfl
theorem sln_B63 : sln 9223372036854775808 = 0 := rfl
theorem srcOf_ok {nt : Nat} {G : Nat → Prop} {N : Nm} {lam : Nat → Nat} {env : Env} {lo : Lo} {c : Core} {a : Act} {w : World} (hok : OK nt G N lam env lo c a w) {el : Nat} (hl : 0 < (lay el).length) {e : Ent} {chk : Option Bool} {n y : Nat} {b : Bool}
    (h : srcOf el e lo c = some (chk, n, y, b)) (hc : ∀ b, chk = some b → b = true) {v : Value} (hv : REnt N lam e v) : Src N w (lay el) n y v := by
  unfold srcOf at h
  split at h
  · cases h
    simp only [REnt] at hv
    exact ⟨by omega, .inl ⟨rfl, none, 0, hv⟩⟩
  · next i m =>
    split at h
    · next L Y hloc =>
      have h0 := cond_some h
      clear h
      obtain ⟨h1, h⟩ := h0
      cases h
      simp only [Bool.and_eq_true, blt_eq, decide_eq_true_eq] at h1
      obtain ⟨h1, h2⟩ := h1
      have h1 := beqKs_eq h1
      subst h1
      simp only [REnt] at hv
      obtain ⟨arr, ty', q1, q2, q3⟩ := hok.re.blk _ _ _ (locOf_get hloc)
      have hrep := repK_len (lay el) n
      rw [hrep] at q2
      refine ⟨h2, ?_⟩
      rcases Nat.eq_zero_or_pos n with h0 | h0
      · subst h0
        exact .inl ⟨rfl, _, _, hv⟩
      · refine .inr ⟨h0, _, _, arr.toList, hv, by have := q3.1; omega, fun j u hu => ?_, q3, q2⟩
        rw [add_at]
        rw [Array.getElem?_toList] at hu
        simp [World.cell?, q1, hu]
    · cases h
  · next l fl x =>
    have h0 := cond_some h
    clear h
    obtain ⟨h1, h⟩ := h0
    cases h
    have h1 := beqKs_eq h1
    subst h1
    simp only [REnt, RSh] at hv
    refine ⟨sln_lt x, ?_⟩
    rcases Nat.eq_zero_or_pos (sln x) with h0 | h0
    · refine .inl ⟨h0, ?_⟩
      rcases hv.2 with ⟨_, h⟩ | ⟨_, aa, cc, h⟩ | ⟨_, g, o, cc, _, _, h, _⟩
      · exact ⟨_, _, h⟩
      · exact ⟨_, _, h⟩
      · rw [h0] at h; exact ⟨_, _, h⟩
    · refine .inr ⟨h0, ?_⟩
      rcases hv.2 with ⟨rfl, h⟩ | ⟨rfl, aa, cc, h⟩ | ⟨aa, g, off, cc, h1, h2, h3, h4, h5, h6, h7, h8, h9⟩
      · exact absurd h0 (by decide)
      · exact absurd h0 (by decide)
      have hrp := Lv.part hl h7 (i := 0) (n := sln x) (by omega)
      rw [Nat.zero_mul, Nat.add_zero, Nat.add_zero, ← h1] at hrp
      have hrep := repK_len (lay el) (sln x)
      have elen : Nat.mul (sln x) (lenK (lay el)) = (repK (sln x) (lay el)).length := by rw [lenK_eq, hrep]; rfl
      rw [elen] at hc ⊢
      have hal : alive c true (slp x) (repK (sln x) (lay el)).length := alive_of (hc _ rfl)
      have hpos : 0 < sln x * (lay el).length := Nat.mul_pos h0 hl
      obtain ⟨a0, arr, ty', e0, e1, hw, hsz, _, hrow⟩ := hrp.row hok.rel (by omega) hal
      obtain ⟨hlen, hget⟩ := arr_slice (arr := arr) (o := off) (n := (repK (sln x) (lay el)).length) hsz
      refine ⟨_, _, (arr.toList.drop off).take (repK (sln x) (lay el)).length, h3, by omega, fun j u hu => ?_, ⟨hlen, fun j hj hj' => ?_⟩, by rw [← hrep]; exact rd_lt _ _ _⟩
      · have hj : j < (repK (sln x) (lay el)).length := by
          have := (List.getElem?_eq_some_iff.1 hu).1
          omega
        rw [hget j hj] at hu
        rw [add_at]
        simp [World.cell?, hw, hu]
      · obtain ⟨_, u, hu, hk⟩ := hrow j hj
        rw [← hget j hj, List.getElem?_eq_getElem hj'] at hu
        cases hu
        rw [e0, lane_rd, if_pos hj]
        exact hk
  · cases h
end Go.Proofs.YtaekfgbfpfecdaaGreat.VM

/- What append makes of the machine's state, case by case; no conditions but those that each theorem names. -/
namespace Go.Proofs.YtaekfgbfpfecdaaGreat.VM
open Go
set_option linter.unusedVariables false
set_option linter.unusedSimpArgs false
variable {P : Program} [Df]
set_option linter.unusedSectionVars false

inductive AppTo (z x n y : Nat) (c : Core) : Nat → Core → Prop where
  | same : n = 0 → AppTo z x n y c x c
  | new : n ≠ 0 → x = 0 → c.t + n * z < 4194304 → AppTo z x n y c (slmk (64 * c.t) n n 0) ⟨apv c.m c.t y, c.t + n * z, c.s, c.d⟩
  | room : n ≠ 0 → x ≠ 0 → slp x ≠ 0 → Nat.beq (deadBits c.d (slp x) (scp x * z)) 0 = true → sln x + n ≤ scp x →
      AppTo z x n y c (slmk (slp x) (sln x + n) (scp x) (sex x)) ⟨wrv c.m (slp x + sln x * (64 * z)) (n * z) y, c.t, c.s, c.d⟩
  | grow : n ≠ 0 → x ≠ 0 → slp x ≠ 0 → Nat.beq (deadBits c.d (slp x) (scp x * z)) 0 = true → scp x < sln x + n → sln x + n < 131072 → c.t + (sln x + n) * z < 4194304 → sex x ≠ 0 →
      AppTo z x n y c (slmk (64 * c.t) (sln x + n) (sln x + n) 0) ⟨apv c.m c.t (cat (rd c.m (slp x) (sln x * z)) (sln x * z) y), c.t + (sln x + n) * z, c.s, c.d⟩
  | move : n ≠ 0 → x ≠ 0 → slp x ≠ 0 → Nat.beq (deadBits c.d (slp x) (scp x * z)) 0 = true → scp x < sln x + n → sln x + n < 131072 → c.t + (sln x + n) * z < 4194304 → sex x = 0 →
      AppTo z x n y c (slmk (64 * c.t) (sln x + n) (sln x + n) 0)
        ⟨apv c.m c.t (cat (rd c.m (slp x) (sln x * z)) (sln x * z) y), c.t + (sln x + n) * z, c.s, Nat.lor c.d (Nat.shiftLeft (Nat.sub (Nat.shiftLeft 1 (scp x * z)) 1) (Nat.shiftRight (slp x) 6))⟩
theorem appK_def (z x n y : Nat) (c : Core) : (∀ k, appendK z x n y c k = false) ∨ ∃ r c', AppTo z x n y c r c' ∧ ∀ k, appendK z x n y c k = k r c' := by
  unfold appendK
  simp only [force_eq, nRow, wrK_eq]
  cases q0 : Nat.beq n 0 with
  | true => exact .inr ⟨x, c, .same (Nat.eq_of_beq_eq_true q0), fun k => rfl⟩
  | false =>
  have q0 : n ≠ 0 := Nat.ne_of_beq_eq_false q0
  cases q1 : Nat.beq x 0 with
  | true =>
    have q1 := Nat.eq_of_beq_eq_true q1
    simp only [cond_false, cond_true]
    cases q2 : Nat.blt (Nat.add c.t (Nat.mul n z)) 4194304 with
    | false => exact .inl fun k => rfl
    | true =>
      rw [blt_eq, decide_eq_true_eq] at q2
      refine .inr ⟨_, _, .new q0 q1 q2, fun k => ?_⟩
      rw [shl6]
      rfl
  | false =>
  have q1 : x ≠ 0 := Nat.ne_of_beq_eq_false q1
  simp only [cond_false]
  cases q2 : Nat.beq (slp x) 0 with
  | true => exact .inl fun k => rfl
  | false =>
  have q2 : slp x ≠ 0 := Nat.ne_of_beq_eq_false q2
  simp only [cond_false]
  cases q3 : Nat.beq (deadBits c.d (slp x) (Nat.mul (scp x) z)) 0 with
  | false => exact .inl fun k => rfl
  | true =>
  simp only [cond_true]
  cases q4 : Nat.ble (Nat.add (sln x) n) (scp x) with
  | true =>
    have q4 := Nat.le_of_ble_eq_true q4
    refine .inr ⟨_, _, .room q0 q1 q2 q3 q4, fun k => ?_⟩
    rw [shl6]
    rfl
  | false =>
  have q4 : scp x < sln x + n := by
    rcases Nat.lt_or_ge (scp x) (sln x + n) with h | h
    · exact h
    · have := Nat.ble_eq_true_of_le h
      rw [show Nat.add (sln x) n = sln x + n from rfl, this] at q4
      cases q4
  simp only [cond_false]
  cases q5 : Nat.blt (Nat.add (sln x) n) 131072 with
  | false => exact .inl fun k => rfl
  | true =>
  rw [blt_eq, decide_eq_true_eq] at q5
  simp only [cond_true]
  cases q6 : Nat.blt (Nat.add c.t (Nat.mul (Nat.add (sln x) n) z)) 4194304 with
  | false => exact .inl fun k => rfl
  | true =>
  rw [blt_eq, decide_eq_true_eq] at q6
  simp only [cond_true]
  cases q7 : Nat.beq (sex x) 0 with
  | true =>
    have q7 := Nat.eq_of_beq_eq_true q7
    refine .inr ⟨_, _, .move q0 q1 q2 q3 q4 q5 q6 q7, fun k => ?_⟩
    rw [shl6]
    rfl
  | false =>
    have q7 : sex x ≠ 0 := Nat.ne_of_beq_eq_false q7
    refine .inr ⟨_, _, .grow q0 q1 q2 q3 q4 q5 q6 q7, fun k => ?_⟩
    rw [shl6]
    rfl

/-- A row of equal elements, lane by lane. -/
theorem RL_rep {N : Nm} {l : List K} (hl : 0 < l.length) {n y : Nat} {vs : List Value} : RL N (repK n l) y vs ↔ vs.length = n * l.length ∧ ∀ j u, j < n * l.length → vs[j]? = some u → RK N (kat l j) (lane y j) u := by
  have hrep := repK_len l n
  have hk : ∀ j (h : j < (repK n l).length), (repK n l)[j] = kat l j := by
    intro j h
    have h1 := (rep_kat (n := n) hl (by omega : j < n * l.length)).1
    rw [List.getElem?_eq_getElem h] at h1
    exact Option.some.inj h1
  constructor
  · intro h
    refine ⟨by rw [h.1, hrep], fun j u hj hu => ?_⟩
    have hjv : j < vs.length := by rw [h.1, hrep]; exact hj
    rw [List.getElem?_eq_getElem hjv] at hu
    cases hu
    have := h.2 j (by omega) hjv
    rw [hk] at this
    exact this
  · intro h
    refine ⟨by rw [h.1, hrep], fun j hj hj' => ?_⟩
    rw [hk]
    exact h.2 j _ (by omega) (List.getElem?_eq_getElem hj')
theorem RL_app {N : Nm} {l : List K} (hl : 0 < l.length) {m n x y : Nat} {us vs : List Value} (hu : RL N (repK m l) x us) (hv : RL N (repK n l) y vs) (hx : x < 2 ^ (64 * (m * l.length))) :
    RL N (repK (m + n) l) (cat x (m * l.length) y) (us ++ vs) := by
  rw [RL_rep hl] at hu hv ⊢
  refine ⟨by rw [List.length_append, hu.1, hv.1, Nat.add_mul], fun j u hj hju => ?_⟩
  rw [Nat.add_mul] at hj
  rw [lane_cat hx]
  by_cases h : j < m * l.length
  · rw [if_pos h]
    rw [List.getElem?_append_left (by omega)] at hju
    exact hu.2 j u h hju
  · rw [if_neg h]
    rw [List.getElem?_append_right (by omega), hu.1] at hju
    have := hv.2 (j - m * l.length) u (by omega) hju
    have e : m * l.length + (j - m * l.length) = j := by omega
    rw [← kat_add l m, e] at this
    exact this

/-- The cells of a slice that are there. -/
theorem olds_of {N : Nm} {c : Core} {w : World} (hR : Rel N c w) {l : List K} (hl : 0 < l.length) {a g o cap ex m : Nat} (h : ∀ j, j < cap * l.length → Lv N (a + j) g (o + j) (kat l j) ex) (hm : m ≤ cap) (hd : Nat.beq (deadBits c.d (64 * a) (cap * l.length)) 0 = true) :
    ∃ olds : List Value, olds.length = m * l.length ∧ (∀ j u, olds[j]? = some u → w.cell? ((⟨g, o, none⟩ : Addr).add j) = some u) ∧ RL N (repK m l) (rd c.m (64 * a) (m * l.length)) olds := by
  rcases Nat.eq_zero_or_pos m with h0 | h0
  · subst h0
    exact ⟨[], by simp, by simp, by rw [RL_rep hl]; simp⟩
  · have hrp := Lv.part hl h (i := 0) (n := m) (by omega)
    rw [Nat.zero_mul, Nat.add_zero, Nat.add_zero] at hrp
    have hrep := repK_len l m
    have hpos : 0 < m * l.length := Nat.mul_pos h0 hl
    have hle : m * l.length ≤ cap * l.length := Nat.mul_le_mul_right _ hm
    have hal : alive c true (64 * a) (repK m l).length := fun _ j hj => deadBits_ok hd j (by omega)
    obtain ⟨a0, arr, ty', e0, e1, hw, hsz, _, hrow⟩ := hrp.row hR (by omega) hal
    obtain ⟨hlen, hget⟩ := arr_slice (arr := arr) (o := o) (n := (repK m l).length) hsz
    refine ⟨(arr.toList.drop o).take (repK m l).length, by omega, fun j u hu => ?_, ⟨hlen, fun j hj hj' => ?_⟩⟩
    · have hj : j < (repK m l).length := by
        have := (List.getElem?_eq_some_iff.1 hu).1
        omega
      rw [hget j hj] at hu
      rw [add_at]
      simp [World.cell?, hw, hu]
    · obtain ⟨_, u, hu, hk⟩ := hrow j hj
      rw [← hget j hj, List.getElem?_eq_getElem hj'] at hu
      cases hu
      have ea : a = a0 := by omega
      rw [lane_rd, if_pos (by omega), ea]
      exact hk
end Go.Proofs.YtaekfgbfpfecdaaGreat.VM

/- What append does, as the machine has it and as the model has it; no conditions but those that each theorem names. -/
namespace Go.Proofs.YtaekfgbfpfecdaaGreat.VM
open Go
set_option linter.unusedVariables false
set_option linter.unusedSimpArgs false
variable {P : Program} [Df]
set_option linter.unusedSectionVars false

theorem row_at {N : Nm} {c : Core} {w : World} (hR : Rel N c w) {l : List K} (hl : 0 < l.length) {kf : Nat → K} {m : Nat} (hk : ∀ j, j < m * l.length → kf j = kat l j) {g o sp len cc : Nat}
    (hm : m < 131072) (hlen : len ≤ m) (htl : c.t + m * l.length < 4194304) (q1 : 1 ≤ m) (q2 : m ≤ cc) (q3 : (cc - m) * l.length ≤ sp) :
    slmk (64 * c.t) len m 0 < 2 ^ 64 ∧ RS (N.add c.t (m * l.length) kf g o true sp) l (slmk (64 * c.t) len m 0) (.slice (some ⟨g, o, none⟩) len cc) := by
  obtain ⟨g1, g2, g3, g4, g5⟩ := slmk_get (p := 64 * c.t) (len := len) (cap := m) (ex := 0) (by omega) (by omega) hm (by omega)
  have hpos : 1 ≤ m * l.length := Nat.mul_pos q1 hl
  refine ⟨g5, .inr (.inr ⟨c.t, g, o, cc, g1, hR.tl.1, by rw [g2], by rw [g2, g3]; exact hlen, by rw [g4]; omega, by rw [g3]; exact htl, ?_, ?_, ?_⟩)⟩
  · intro j hj
    rw [g3] at hj
    rw [g4]
    refine .inr ⟨true, if c.t + j + 1 = c.t + m * l.length then sp else 0, ?_, fun _ => rfl⟩
    simp only [Nm.add]
    rw [if_pos ⟨by omega, by omega⟩, Nat.add_sub_cancel_left, hk j hj]
  · intro e; rw [g4] at e; cases e
  · intro _
    rw [g3]
    refine ⟨q1, q2, .inr ⟨kf (m * l.length - 1), sp, ?_, q3⟩⟩
    simp only [Nm.add]
    rw [if_pos ⟨by omega, by omega⟩, if_pos (by omega)]
    have : c.t + (m * l.length - 1) - c.t = m * l.length - 1 := by omega
    rw [this]

theorem OK.kill {nt : Nat} {G : Nat → Prop} {N : Nm} {lam : Nat → Nat} {env : Env} {lo : Lo} {c : Core} {a : Act} {w : World} (h : OK nt G N lam env lo c a w) {b n d : Nat}
    (hd : ∀ j, j < n → N.ln (b + j) = some .dead ∨ ∃ g o k sp, N.ln (b + j) = some (.cell g o k true sp)) (h1 : 1 ≤ b) (h2 : b + n ≤ c.t) (hb : ∀ i, (c.d.testBit i = true ∨ (b ≤ i ∧ i < b + n)) → d.testBit i = true) :
    OK nt G (N.kill b n) lam env lo ⟨c.m, c.t, c.s, d⟩ a w ∧ Ext N (N.kill b n) := by
  have hext := ext_kill hd
  exact ⟨⟨h.re.mono hext (fun _ _ _ => rfl) (fun i e hi b' g o k mo sp hb' => h.re.off i e hi b' g o k mo sp (kill_get hb').1), h.rel.kill hext h1 h2 hb, h.pools.mono hext, fun g b' o k mo sp hg hb' => h.off g b' o k mo sp hg (kill_get hb').1, h.ing, h.prot, h.nt, h.df⟩, hext⟩

/-- A slice's new number, and what it stands for. -/
def Grown (nt : Nat) (G : Nat → Prop) (N : Nm) (lam : Nat → Nat) (env : Env) (lo : Lo) (a : Act) (w : World) (l : List K) (r : Nat) (c' : Core) (v' : Value) (w' : World) : Prop :=
  ∃ N', Ext N N' ∧ OK nt G N' lam env lo c' a w' ∧ RSh N' (.sli l) r v' ∧ Same G w w' ∧ w.heap.size ≤ w'.heap.size

/-- A new block with room to spare. -/
theorem grown_new {nt : Nat} {G : Nat → Prop} {N : Nm} {lam : Nat → Nat} {env : Env} {lo : Lo} {c : Core} {a : Act} {w w' : World} (hok : OK nt G N lam env lo c a w) {l : List K} (hl : 0 < l.length) {m cc y : Nat} {zs vs : List Value} {e : TypeId} {arr : Array Value}
    (hm0 : 1 ≤ m) (hm : m < 131072) (hcc : m ≤ cc) (htl : c.t + m * l.length < 4194304) (hv : RL N (repK m l) y vs) (hy : y < 2 ^ (64 * (m * l.length))) (harr : arr.toList = vs ++ zs) (hz : zs.length = (cc - m) * l.length)
    (hw : w'.heap = w.heap.push (.cells arr e (0, 0))) (ho : w'.os = w.os ∧ w'.output = w.output) : Grown nt G N lam env lo a w l (slmk (64 * c.t) m m 0) ⟨apv c.m c.t y, c.t + m * l.length, c.s, c.d⟩ (.slice (some ⟨w.heap.size, 0, none⟩) m cc) w' := by
  have hrep := repK_len l m
  have hvl := hv.1
  obtain ⟨kf, hkf, hok', hext, hsame, hsz⟩ := hok.row hw ho (l := repK m l) (y := y) true (sp := (cc - m) * l.length) (by rw [hrep]; exact hy) (by
    have : arr.toList.length = arr.size := rfl
    rw [← this, harr, List.length_append, hz, hvl]) (by
    rw [harr, List.take_append_of_le_length (by omega), List.take_of_length_le (by omega)]; exact hv) (by rw [hrep]; exact htl)
  rw [hrep] at hok' hext
  have hkf' : ∀ j, j < m * l.length → kf j = kat l j := by
    intro j hj
    have h1 := (rep_kat (n := m) hl hj).1
    rw [List.getElem?_eq_getElem (by rw [hrep]; exact hj)] at h1
    rw [hkf j (by rw [hrep]; exact hj)]
    exact Option.some.inj h1
  exact ⟨_, hext, hok', row_at hok.rel hl hkf' hm (Nat.le_refl _) htl hm0 hcc (Nat.le_refl _), hsame, hsz⟩

theorem app_new (hF : Facts P) {nt : Nat} {G : Nat → Prop} {N : Nm} {lam : Nat → Nat} {env : Env} {lo : Lo} {c : Core} {a : Act} {w : World} (hok : OK nt G N lam env lo c a w) {t ty' el : TypeId} (ht : P.underlying t = some (.slice el))
    {it : TypeInfo} {z : Value} (hit : P.info? el = some it) (hz : it.zero = some z) (hisz : it.size = (lay el).length) (hzs : z.cells.size = (lay el).length) (hbt : it.bytes < 1048576) (hl : 0 < (lay el).length)
    {n y : Nat} {u : Value} (hu : Src N w (lay el) n y u) (hn : n ≠ 0) (htl : c.t + n * (lay el).length < 4194304) :
    ∃ v' w', (Builtin.append_ #[t, t] ty' #[.slice none 0 0, u]).run P w = .ok v' w' ∧ Grown nt G N lam env lo a w (lay el) (slmk (64 * c.t) n n 0) ⟨apv c.m c.t y, c.t + n * (lay el).length, c.s, c.d⟩ v' w' := by
  have hlt := hu.lt
  rcases hu.val with ⟨h, _⟩ | ⟨hpos, ad, cc, news, rfl, h1, h2, h3, h4⟩
  · exact absurd h hn
  have hb : n * it.bytes ≤ 131072 * 1048576 := Nat.mul_le_mul (by omega) (by omega)
  refine ⟨_, _, run_append_nil (P := P) w t ty' el it z ht hit hz ad n cc news (by rw [hisz]; exact h1) h2 hpos (by omega) (by omega), ?_⟩
  exact grown_new hok hl (zs := (Builtin.zeroCells z.cells (grownCap w n 0 el - n)).toList) (arr := news.toArray ++ Builtin.zeroCells z.cells (grownCap w n 0 el - n)) hpos hlt (grownCap_ge w n 0 el) htl h3 h4 (by simp) (by
    rw [Array.length_toList, size_zeroCells, hzs]) rfl ⟨rfl, rfl⟩

theorem app_grow (hF : Facts P) {nt : Nat} {G : Nat → Prop} {N : Nm} {lam : Nat → Nat} {env : Env} {lo : Lo} {c : Core} {a : Act} {w : World} (hok : OK nt G N lam env lo c a w) {t ty' el : TypeId} (ht : P.underlying t = some (.slice el))
    {it : TypeInfo} {z : Value} (hit : P.info? el = some it) (hz : it.zero = some z) (hisz : it.size = (lay el).length) (hzs : z.cells.size = (lay el).length) (hbt : it.bytes < 1048576) (hl : 0 < (lay el).length)
    {n y : Nat} {u : Value} (hu : Src N w (lay el) n y u) (hn : n ≠ 0) {len sCap Y : Nat} {b : Addr} {olds : List Value} (ho1 : olds.length = len * (lay el).length) (ho2 : ∀ j u, olds[j]? = some u → w.cell? (b.add j) = some u)
    (ho3 : RL N (repK len (lay el)) Y olds) (hY : Y < 2 ^ (64 * (len * (lay el).length))) (hg : sCap < len + n) (hneed : len + n < 131072) (htl : c.t + (len + n) * (lay el).length < 4194304) :
    ∃ v' w', (Builtin.append_ #[t, t] ty' #[.slice (some b) len sCap, u]).run P w = .ok v' w' ∧
      Grown nt G N lam env lo a w (lay el) (slmk (64 * c.t) (len + n) (len + n) 0) ⟨apv c.m c.t (cat Y (len * (lay el).length) y), c.t + (len + n) * (lay el).length, c.s, c.d⟩ v' w' := by
  rcases hu.val with ⟨h, _⟩ | ⟨hpos, ad, cc, news, rfl, h1, h2, h3, h4⟩
  · exact absurd h hn
  have hb : (len + n) * it.bytes ≤ 131072 * 1048576 := Nat.mul_le_mul (by omega) (by omega)
  refine ⟨_, _, run_append_grow (P := P) w t ty' el it z ht hit hz b len sCap olds (by rw [hisz]; exact ho1) ho2 ad n cc news (by rw [hisz]; exact h1) h2 hg (by omega) (growslice_fits hg (by omega)), ?_⟩
  exact grown_new hok hl (zs := (Builtin.zeroCells z.cells (grownCap w (len + n) sCap el - (len + n))).toList) (arr := olds.toArray ++ news.toArray ++ Builtin.zeroCells z.cells (grownCap w (len + n) sCap el - (len + n))) (by omega) hneed (grownCap_ge w (len + n) sCap el) htl (RL_app hl ho3 h3 hY) (by
    rw [Nat.add_mul]; exact cat_lt hY h4) (by simp) (by
    rw [Array.length_toList, size_zeroCells, hzs]) rfl ⟨rfl, rfl⟩
end Go.Proofs.YtaekfgbfpfecdaaGreat.VM

/- append within a row's room, and where the row lies; no conditions but those that each theorem names. -/
namespace Go.Proofs.YtaekfgbfpfecdaaGreat.VM
open Go
set_option linter.unusedVariables false
set_option linter.unusedSimpArgs false
variable {P : Program} [Df]
set_option linter.unusedSectionVars false

/-- What a slice's number says, where its lanes are alive. -/
structure Live (N : Nm) (c : Core) (l : List K) (x : Nat) (a g o cc : Nat) : Prop where
  ptr : slp x = 64 * a
  pos : 1 ≤ a
  len : sln x ≤ scp x
  ex : sex x ≤ 1
  lim : a + scp x * l.length < 4194304
  lv : ∀ j, j < scp x * l.length → Lv N (a + j) g (o + j) (kat l j) (sex x)
  exa : sex x = 1 → cc = scp x
  inx : sex x = 0 → 1 ≤ scp x ∧ scp x ≤ cc ∧ (N.ln (a + (scp x * l.length - 1)) = some .dead ∨
      ∃ k sp, N.ln (a + (scp x * l.length - 1)) = some (.cell g (o + (scp x * l.length - 1)) k true sp) ∧ (cc - scp x) * l.length ≤ sp)
  dead : Nat.beq (deadBits c.d (64 * a) (scp x * l.length)) 0 = true
theorem Live.cap {N : Nm} {c : Core} {l : List K} {x a g o cc : Nat} (h : Live N c l x a g o cc) : scp x ≤ cc := by
  have := h.ex
  rcases Nat.lt_or_ge (sex x) 1 with h1 | h1
  · exact (h.inx (by omega)).2.1
  · rw [h.exa (by omega)]; exact Nat.le_refl _
/-- Lane by lane. -/
theorem Live.cell {N : Nm} {c : Core} {w : World} (hR : Rel N c w) {l : List K} {x a g o cc : Nat} (h : Live N c l x a g o cc) {j : Nat} (hj : j < scp x * l.length) : ∃ m sp, N.ln (a + j) = some (.cell g (o + j) (kat l j) m sp) ∧ (sex x = 0 → m = true) := by
  rcases h.lv j hj with h1 | h1
  · have h2 := hR.dead _ h1
    have h3 := deadBits_ok h.dead j hj
    rw [Nat.mul_div_cancel_left _ (by omega), h2] at h3
    cases h3
  · exact h1

theorem app_room (hF : Facts P) {nt : Nat} {G : Nat → Prop} {N : Nm} {lam : Nat → Nat} {env : Env} {lo : Lo} {c : Core} {a : Act} {w : World} (hok : OK nt G N lam env lo c a w) {t ty' el : TypeId} (ht : P.underlying t = some (.slice el))
    {it : TypeInfo} (hit : P.info? el = some it) (hisz : it.size = (lay el).length) (hl : 0 < (lay el).length)
    {n y : Nat} {u : Value} (hu : Src N w (lay el) n y u) (hn : n ≠ 0) {x b g o cc : Nat} (hx : Live N c (lay el) x b g o cc) (hroom : sln x + n ≤ scp x) :
    ∃ v' w', (Builtin.append_ #[t, t] ty' #[.slice (some ⟨g, o, none⟩) (sln x) cc, u]).run P w = .ok v' w' ∧
      Grown nt G N lam env lo a w (lay el) (slmk (slp x) (sln x + n) (scp x) (sex x)) ⟨wrv c.m (slp x + sln x * (64 * (lay el).length)) (n * (lay el).length) y, c.t, c.s, c.d⟩ v' w' := by
  rcases hu.val with ⟨h, _⟩ | ⟨hpos, ad, c2, news, rfl, h1, h2, h3, h4⟩
  · exact absurd h hn
  have hrp := Lv.part hl hx.lv hroom
  have hrep := repK_len (lay el) n
  have hp : 0 < n * (lay el).length := Nat.mul_pos hpos hl
  have hle : sln x * (lay el).length + n * (lay el).length ≤ scp x * (lay el).length := by
    rw [← Nat.add_mul]; exact Nat.mul_le_mul_right _ hroom
  have hal : alive c true (64 * (b + sln x * (lay el).length)) (repK n (lay el)).length := by
    intro _ j hj
    have := deadBits_ok hx.dead (sln x * (lay el).length + j) (by omega)
    rw [Nat.mul_div_cancel_left _ (by omega)] at this ⊢
    rw [Nat.add_assoc]; exact this
  obtain ⟨a0, arr, ty0, e0, _, hw, hsz, _, _⟩ := hrp.row hok.rel (by omega) hal
  obtain ⟨w', hr, hwr⟩ := store_cells (P := P) g (o + sln x * (lay el).length) news 0 w arr ty0 hw (by omega) (by
    intro v hv
    obtain ⟨j, hj, rfl⟩ := List.mem_iff_getElem.1 hv
    exact (h3.2 j (by omega) hj).oneCell cst_one)
  have hwr' : Wrote w w' g (o + sln x * (lay el).length) news := hwr
  have hcap := hx.cap
  refine ⟨_, w', run_app_in ht hit (by rw [hisz]; exact h1) h2 (by omega) (by rw [hisz]; exact hr), N, Ext.refl N, ?_⟩
  obtain ⟨hok', hs1, hs2⟩ := hok.wrote hrp (by omega) hal (by rw [hrep]; exact h4) h3 hwr'
  have ep : slp x + sln x * (64 * (lay el).length) = 64 * (b + sln x * (lay el).length) := by
    rw [hx.ptr, Nat.mul_add, Nat.mul_left_comm]
  rw [ep]
  rw [hrep] at hok'
  refine ⟨hok', ?_, hs1, hs2⟩
  have hlt : scp x < 131072 := by
    have : scp x = (Nat.shiftRight x 45) % 131072 := Nat.and_two_pow_sub_one_eq_mod _ 17
    rw [this]; exact Nat.mod_lt _ (by omega)
  obtain ⟨g1, g2, g3, g4, g5⟩ := slmk_get (p := slp x) (len := sln x + n) (cap := scp x) (ex := sex x) (slp_lt x) (by omega) hlt hx.ex
  refine ⟨g5, .inr (.inr ⟨b, g, o, cc, by rw [g1]; exact hx.ptr, hx.pos, by rw [g2], by rw [g2, g3]; exact hroom, by rw [g4]; exact hx.ex, by rw [g3]; exact hx.lim, ?_, ?_, ?_⟩)⟩
  · rw [g3, g4]; exact hx.lv
  · rw [g3, g4]; exact hx.exa
  · rw [g3, g4]; exact hx.inx

/-- The row grows where it lies, into room that the machine did not count. -/
theorem app_in (hF : Facts P) {nt : Nat} {G : Nat → Prop} {N : Nm} {lam : Nat → Nat} {env : Env} {lo : Lo} {c : Core} {a : Act} {w : World} (hok : OK nt G N lam env lo c a w) {t ty' el : TypeId} (ht : P.underlying t = some (.slice el))
    {it : TypeInfo} (hit : P.info? el = some it) (hisz : it.size = (lay el).length) (hl : 0 < (lay el).length)
    {n y : Nat} {u : Value} (hu : Src N w (lay el) n y u) (hn : n ≠ 0) {x b g o cc : Nat} (hx : Live N c (lay el) x b g o cc) (hex : sex x = 0) (h1 : scp x < sln x + n) (h2 : sln x + n ≤ cc) (hneed : sln x + n < 131072)
    (htl : c.t + (sln x + n) * (lay el).length < 4194304) :
    ∃ v' w', (Builtin.append_ #[t, t] ty' #[.slice (some ⟨g, o, none⟩) (sln x) cc, u]).run P w = .ok v' w' ∧
      Grown nt G N lam env lo a w (lay el) (slmk (64 * c.t) (sln x + n) (sln x + n) 0)
        ⟨apv c.m c.t (cat (rd c.m (slp x) (sln x * (lay el).length)) (sln x * (lay el).length) y), c.t + (sln x + n) * (lay el).length, c.s, Nat.lor c.d (Nat.shiftLeft (Nat.sub (Nat.shiftLeft 1 (scp x * (lay el).length)) 1) (Nat.shiftRight (slp x) 6))⟩ v' w' := by
  rcases hu.val with ⟨h, _⟩ | ⟨hpos, ad, c2, news, rfl, q1, q2, q3, q4⟩
  · exact absurd h hn
  obtain ⟨i1, i2, i3⟩ := hx.inx hex
  have hlen := hx.len
  have hcz : 1 * (lay el).length ≤ scp x * (lay el).length := Nat.mul_le_mul_right _ i1
  have hmul1 : sln x * (lay el).length ≤ scp x * (lay el).length := Nat.mul_le_mul_right _ hlen
  have hmul2 : scp x * (lay el).length ≤ (sln x + n) * (lay el).length := Nat.mul_le_mul_right _ (by omega)
  have hmul3 : (sln x + n) * (lay el).length ≤ cc * (lay el).length := Nat.mul_le_mul_right _ h2
  have hmul4 : (sln x + n) * (lay el).length = sln x * (lay el).length + n * (lay el).length := Nat.add_mul _ _ _
  have hsub1 : (cc - scp x) * (lay el).length = cc * (lay el).length - scp x * (lay el).length := Nat.sub_mul _ _ _
  have hsub2 : (cc - (sln x + n)) * (lay el).length = cc * (lay el).length - (sln x + n) * (lay el).length := Nat.sub_mul _ _ _
  have hcell := fun j hj => hx.cell (j := j) hok.rel hj
  -- the last lane and its room
  obtain ⟨kl, spl, hlast, hspl⟩ : ∃ k sp, N.ln (b + (scp x * (lay el).length - 1)) = some (.cell g (o + (scp x * (lay el).length - 1)) k true sp) ∧ (cc - scp x) * (lay el).length ≤ sp := by
    rcases i3 with i3 | i3
    · obtain ⟨m, sp, h, _⟩ := hcell (scp x * (lay el).length - 1) (by omega)
      rw [i3] at h; cases h
    · exact i3
  obtain ⟨arr, ty0, vl, hw, _, _, hsz⟩ := hok.rel.cell _ _ _ _ _ _ hlast
  have htop := (hok.rel.top _ _ hlast).2
  -- the old lanes are given up
  have hd' : slp x / 64 = b := by rw [hx.ptr, Nat.mul_div_cancel_left _ (by omega)]
  obtain ⟨hok1, hext1⟩ := hok.kill (b := b) (n := scp x * (lay el).length) (d := Nat.lor c.d (Nat.shiftLeft (Nat.sub (Nat.shiftLeft 1 (scp x * (lay el).length)) 1) (Nat.shiftRight (slp x) 6))) (fun j hj => by
      obtain ⟨m, sp, h, hm⟩ := hcell j hj
      rw [hm hex] at h
      exact .inr ⟨_, _, _, _, h⟩) hx.pos (by omega) (fun i hi => by
      rw [dead_bits, hd']
      rcases hi with hi | hi
      · simp [hi]
      · simp [hi.1, hi.2])
  generalize hD : Nat.lor c.d (Nat.shiftLeft (Nat.sub (Nat.shiftLeft 1 (scp x * (lay el).length)) 1) (Nat.shiftRight (slp x) 6)) = D at hok1 ⊢
  -- nobody stands for the cells any more
  have hfree : ∀ b' o' k m s, (N.kill b (scp x * (lay el).length)).ln b' = some (.cell g o' k m s) → (o' < o ∧ o' + s < o) ∨ o + cc * (lay el).length ≤ o' := by
    intro b' o' k m s hb'
    obtain ⟨p1, p2⟩ := kill_get hb'
    rcases Nat.lt_or_ge o' o with h | h
    · obtain ⟨m0, s0, h0, _⟩ := hcell 0 (by omega)
      have := hok.rel.spare _ _ _ _ _ _ _ _ _ _ _ p1 h0 (by omega)
      exact .inl ⟨h, by omega⟩
    · rcases Nat.lt_or_ge o' (o + scp x * (lay el).length) with h' | h'
      · exfalso
        obtain ⟨m0, s0, h0, _⟩ := hcell (o' - o) (by omega)
        rw [show o + (o' - o) = o' by omega] at h0
        have := hok.rel.inj _ _ _ _ _ _ _ _ _ _ p1 h0
        omega
      · have := hok.rel.spare _ _ _ _ _ _ _ _ _ _ _ hlast p1 (by omega)
        exact .inr (by omega)
  -- the new cells are written
  obtain ⟨w', hr, hwr⟩ := store_cells (P := P) g (o + sln x * (lay el).length) news 0 w arr ty0 hw (by omega) (by
    intro v hv
    obtain ⟨j, hj, rfl⟩ := List.mem_iff_getElem.1 hv
    have hrep := repK_len (lay el) n
    exact (q3.2 j (by omega) hj).oneCell cst_one)
  have hwr' : Wrote w w' g (o + sln x * (lay el).length) news := hwr
  have hrel2 := hok1.rel.spared hwr' (fun b' o' k m s hb' => by
    rcases hfree b' o' k m s hb' with h | h
    · exact .inl (by omega)
    · exact .inr (by omega))
  obtain ⟨arr', e1, e2, e3, e4⟩ := hwr'.here _ _ _ hw
  -- the new lanes
  obtain ⟨olds, o1, o2, o3⟩ := olds_of hok.rel hl hx.lv hlen hx.dead
  rw [RL_rep hl] at o3 q3
  have hY : rd c.m (slp x) (sln x * (lay el).length) < 2 ^ (64 * (sln x * (lay el).length)) := rd_lt _ _ _
  have hlay := hrel2.lay e1 (n := (sln x + n) * (lay el).length) (kf := kat (lay el)) (y := cat (rd c.m (slp x) (sln x * (lay el).length)) (sln x * (lay el).length) y) true (sp := (cc - (sln x + n)) * (lay el).length) (o := o)
    (by rw [e2]; omega) (by
      intro j hj
      rw [lane_cat hY]
      by_cases hjl : j < sln x * (lay el).length
      · rw [if_pos hjl, e4 (o + j) (.inl (by omega))]
        have ho := List.getElem?_eq_getElem (l := olds) (i := j) (by omega)
        refine ⟨olds[j]'(by omega), ?_, ?_⟩
        · have := o2 _ _ ho
          rw [add_at] at this
          simpa [World.cell?, hw] using this
        · have := o3.2 j _ hjl ho
          rw [hx.ptr]
          exact this.mono hext1
      · rw [if_neg hjl]
        have hnn := List.getElem?_eq_getElem (l := news) (i := j - sln x * (lay el).length) (by omega)
        refine ⟨news[j - sln x * (lay el).length]'(by omega), ?_, ?_⟩
        · have := e3 _ _ hnn (by omega)
          rw [show o + sln x * (lay el).length + (j - sln x * (lay el).length) = o + j by omega] at this
          exact this
        · have := q3.2 _ _ (by omega) hnn
          have ek : kat (lay el) (j - sln x * (lay el).length) = kat (lay el) j := by
            rw [← kat_add (lay el) (sln x) (j - sln x * (lay el).length)]
            congr 1
            omega
          rw [ek] at this
          exact this.mono hext1)
    (m' := apv c.m c.t (cat (rd c.m (slp x) (sln x * (lay el).length)) (sln x * (lay el).length) y)) (fun b' hb' => lane_apv hok.rel.tl.1 hok.rel.mlt hb') (apv_lt hok.rel.tl.1 hok.rel.mlt (by rw [hmul4]; exact cat_lt hY q4)) htl (by
      intro b' o' k m s hb'
      rcases hfree b' o' k m s hb' with h | h
      · exact .inl h
      · exact .inr (by omega))
  have hext2 := ext_add hrel2 ((sln x + n) * (lay el).length) (kat (lay el)) g o true ((cc - (sln x + n)) * (lay el).length)
  have hin : ∀ b' g' o' k m s, ((N.kill b (scp x * (lay el).length)).add c.t ((sln x + n) * (lay el).length) (kat (lay el)) g o true ((cc - (sln x + n)) * (lay el).length)).ln b' = some (.cell g' o' k m s) → g' = g ∨ (N.kill b (scp x * (lay el).length)).ln b' = some (.cell g' o' k m s) := by
    intro b' g' o' k m s hb'
    simp only [Nm.add] at hb'
    split at hb'
    · cases hb'; exact .inl rfl
    · exact .inr hb'
  have hgG : ¬ Gl G lam lo g := fun hg => hok.off' g _ _ _ _ _ hg hlast
  have hsame := hwr'.same hgG
  have hok2 : OK nt G ((N.kill b (scp x * (lay el).length)).add c.t ((sln x + n) * (lay el).length) (kat (lay el)) g o true ((cc - (sln x + n)) * (lay el).length)) lam env lo
      ⟨apv c.m c.t (cat (rd c.m (slp x) (sln x * (lay el).length)) (sln x * (lay el).length) y), c.t + (sln x + n) * (lay el).length, c.s, D⟩ a w' := by
    refine ⟨hok1.re.mono hext2 (fun i e hi => hsame.2 _ (.inr ⟨i, e, hi, rfl⟩)) (fun i e hi b' g' o' k m s hb' => ?_), hlay, hok1.pools.mono hext2, fun g' b' o' k m s hg hb' => ?_, hok1.ing.le (Nat.le_of_eq hwr'.size.symm), hok1.prot, hok1.nt, hok1.df⟩
    · rcases hin _ _ _ _ _ _ hb' with rfl | h
      · exact fun e' => hgG (.inr ⟨i, e, hi, e'⟩)
      · exact hok1.re.off i e hi b' g' o' k m s h
    · rcases hin _ _ _ _ _ _ hb' with rfl | h
      · exact hgG (.inl hg)
      · exact hok1.off g' b' o' k m s hg h
  refine ⟨_, w', run_app_in ht hit (by rw [hisz]; exact q1) q2 h2 (by rw [hisz]; exact hr), _, hext1.trans hext2, hok2, ?_, ⟨hsame.1, fun g' hg => hsame.2 g' (.inl hg)⟩, Nat.le_of_eq hwr'.size.symm⟩
  exact row_at (c := ⟨c.m, c.t, c.s, D⟩) hrel2 hl (fun _ _ => rfl) hneed (Nat.le_refl _) htl (by omega) h2 (Nat.le_refl _)
end Go.Proofs.YtaekfgbfpfecdaaGreat.VM

/- append, as the machine has it and as the model has it; no conditions but those that each theorem names. -/
namespace Go.Proofs.YtaekfgbfpfecdaaGreat.VM
open Go
set_option linter.unusedVariables false
set_option linter.unusedSimpArgs false
variable {P : Program} [Df]
set_option linter.unusedSectionVars false

theorem RS.nil {N : Nm} {l : List K} {v : Value} (h : RS N l 0 v) : v = .slice none 0 0 := by
  rcases h with ⟨_, h⟩ | ⟨h, _⟩ | ⟨a, g, o, c, h1, h2, _⟩
  · exact h
  · exact absurd h (by decide)
  · have : slp 0 = 0 := rfl
    omega
theorem RS.live {N : Nm} {c : Core} {l : List K} {x : Nat} {v : Value} (h : RS N l x v) (h0 : x ≠ 0) (hp : slp x ≠ 0) (hd : Nat.beq (deadBits c.d (slp x) (scp x * l.length)) 0 = true) :
    ∃ a g o cc, v = .slice (some ⟨g, o, none⟩) (sln x) cc ∧ Live N c l x a g o cc := by
  rcases h with ⟨h, _⟩ | ⟨rfl, _⟩ | ⟨a, g, o, cc, h1, h2, h3, h4, h5, h6, h7, h8, h9⟩
  · exact absurd h h0
  · exact absurd rfl hp
  · rw [h1] at hd
    exact ⟨a, g, o, cc, h3, h1, h2, h4, h5, h6, h7, h8, h9, hd⟩
theorem RS.cap {N : Nm} {l : List K} {x : Nat} {v : Value} (h : RS N l x v) : ∃ b n c, v = .slice b n c ∧ n ≤ c := by
  rcases h with ⟨_, h⟩ | ⟨_, a, c, h⟩ | ⟨a, g, o, c, h1, h2, h3, h4, h5, h6, h7, h8, h9⟩
  · exact ⟨_, _, _, h, Nat.le_refl _⟩
  · exact ⟨_, _, _, h, Nat.zero_le _⟩
  · refine ⟨_, _, _, h3, ?_⟩
    rcases Nat.lt_or_ge (sex x) 1 with q | q
    · have := (h9 (by omega)).2.1; omega
    · rw [h8 (by omega)]; exact h4

theorem app_sound (hF : Facts P) {nt : Nat} {G : Nat → Prop} {N : Nm} {lam : Nat → Nat} {env : Env} {lo : Lo} {c : Core} {a : Act} {w : World} (hok : OK nt G N lam env lo c a w) {t ty' el : TypeId} (ht : P.underlying t = some (.slice el))
    {it : TypeInfo} {z : Value} (hit : P.info? el = some it) (hz : it.zero = some z) (hisz : it.size = (lay el).length) (hzs : z.cells.size = (lay el).length) (hbt : it.bytes < 1048576) (hl : 0 < (lay el).length)
    {n y : Nat} {u : Value} (hu : Src N w (lay el) n y u) {x : Nat} {v : Value} (hx : RSh N (.sli (lay el)) x v) {r : Nat} {c' : Core} (hto : AppTo (lay el).length x n y c r c') :
    ∃ v' w', (Builtin.append_ #[t, t] ty' #[v, u]).run P w = .ok v' w' ∧ Grown nt G N lam env lo a w (lay el) r c' v' w' := by
  simp only [RSh] at hx
  cases hto with
  | same hn =>
    obtain ⟨b, m, cc, rfl, hm⟩ := hx.2.cap
    rcases hu.val with ⟨_, ad, c2, rfl⟩ | ⟨hpos, _⟩
    · exact ⟨_, _, run_app0 ht hit hm, N, Ext.refl N, hok, hx, Same.refl G w, Nat.le_refl _⟩
    · omega
  | new hn h0 htl =>
    subst h0
    rw [hx.2.nil]
    exact app_new hF hok ht hit hz hisz hzs hbt hl hu hn htl
  | room hn h0 hp hd hr =>
    obtain ⟨b, g, o, cc, rfl, hlv⟩ := hx.2.live h0 hp hd
    exact app_room hF hok ht hit hisz hl hu hn hlv hr
  | grow hn h0 hp hd h1 h2 htl hex =>
    obtain ⟨b, g, o, cc, rfl, hlv⟩ := hx.2.live h0 hp hd
    have hcc := hlv.exa (by have := hlv.ex; omega)
    obtain ⟨olds, o1, o2, o3⟩ := olds_of hok.rel hl hlv.lv hlv.len hlv.dead
    rw [← hlv.ptr] at o3
    exact app_grow hF hok ht hit hz hisz hzs hbt hl hu hn o1 o2 o3 (rd_lt _ _ _) (by omega) h2 htl
  | move hn h0 hp hd h1 h2 htl hex =>
    obtain ⟨b, g, o, cc, rfl, hlv⟩ := hx.2.live h0 hp hd
    rcases Nat.lt_or_ge cc (sln x + n) with hcc | hcc
    · obtain ⟨olds, o1, o2, o3⟩ := olds_of hok.rel hl hlv.lv hlv.len hlv.dead
      rw [← hlv.ptr] at o3
      obtain ⟨v', w', hr, N1, hext1, hok1, hrs, hs1, hs2⟩ := app_grow (ty' := ty') hF hok ht hit hz hisz hzs hbt hl hu hn o1 o2 o3 (rd_lt _ _ _) hcc h2 htl
      have hcell := fun j hj => hlv.cell (j := j) hok.rel hj
      obtain ⟨i1, i2, i3⟩ := hlv.inx hex
      have hcz : 1 * (lay el).length ≤ scp x * (lay el).length := Nat.mul_le_mul_right _ i1
      obtain ⟨ml, sl, hlast, _⟩ := hcell (scp x * (lay el).length - 1) (by omega)
      have htop := (hok.rel.top _ _ hlast).2
      have hd' : slp x / 64 = b := by rw [hlv.ptr, Nat.mul_div_cancel_left _ (by omega)]
      obtain ⟨hok2, hext2⟩ := hok1.kill (b := b) (n := scp x * (lay el).length) (d := Nat.lor c.d (Nat.shiftLeft (Nat.sub (Nat.shiftLeft 1 (scp x * (lay el).length)) 1) (Nat.shiftRight (slp x) 6))) (fun j hj => by
          obtain ⟨m, sp, h, hm⟩ := hcell j hj
          rw [hm hex] at h
          rcases hext1.ln _ _ h with h' | ⟨h', _⟩
          · exact .inr ⟨_, _, _, _, h'⟩
          · exact .inl h') hlv.pos (by show _ ≤ c.t + (sln x + n) * (lay el).length; omega) (fun i hi => by
          rw [dead_bits, hd']
          rcases hi with hi | hi
          · simp only at hi; simp [hi]
          · simp [hi.1, hi.2])
      exact ⟨v', w', hr, _, hext1.trans hext2, hok2, hrs.mono hext2, hs1, hs2⟩
    · exact app_in hF hok ht hit hisz hl hu hn hlv hex h1 hcc h2 htl

theorem append_ok (hF : Facts P) {ops : Array Oper} {i : Nat} {o : Oper} (ho : ops[i]? = some o) (hg : o.guard = none) {I : FI} {cl : Call} (hop : o.op = .call cl) (hcl : cl.callee = .builtin .append) {s x : Operand} (hs : cl.args.toList = [s, x]) {env : Env} {lo : Lo} {c : Core} :
    Def3 (fun k => denAppend I o.dst cl.argTypes.toList s x env lo c k) (Sound1 P ops i I.nt env lo c) := by
  unfold denAppend
  split
  · next t t' hts =>
    cases htt : Nat.beq t t' with
    | false => exact .inl fun k => rfl
    | true =>
    have htt := Nat.eq_of_beq_eq_true htt
    subst htt
    simp only [cond_true]
    have f1 := hF.sli t
    generalize ty t = r at f1 ⊢
    obtain ⟨td, n0⟩ := r
    cases td <;> first | exact .inl fun k => rfl | skip
    next el =>
    have hu := f1 _ _ rfl
    simp only
    cases q : (zeroOk el && Nat.blt 0 (lenK (lay el)) && Nat.beq (ty el).size (lenK (lay el)) && Nat.blt (bytesT el) 1048576) with
    | false => exact .inl fun k => rfl
    | true =>
    simp only [Bool.and_eq_true, blt_eq, decide_eq_true_eq, lenK_eq] at q
    obtain ⟨⟨⟨q1, hl⟩, q3⟩, q4⟩ := q
    have q3 := Nat.eq_of_beq_eq_true q3
    obtain ⟨it, z, hit, hz, hzl, _⟩ := hF.zero el q1
    obtain ⟨hsz, _⟩ := hF.size el (by omega)
    have hisz : it.size = (lay el).length := by rw [hit] at hsz; simp at hsz; omega
    have hbt : it.bytes < 1048576 := by
      have := hF.byt el q4
      rw [hit] at this
      simp at this
      omega
    simp only [cond_true]
    split
    · next es ex hes hex =>
      split
      · next fl xs chk n y b htn hsrc =>
        rcases chk_cases chk with hc | hc
        · rcases appK_def (lay el).length xs n y c with hd | ⟨r, c', hto, hd⟩
          · refine .inl fun k => ?_
            simp only [chkK_true hc, force_eq, join_eq, lenK_eq]
            exact hd _
          · rcases setK_def I.nt I.forced o.dst none (resEnt [.sli (lay el)] [r]) env with hd2 | ⟨env', hd2, hset⟩
            · refine .inl fun k => ?_
              simp only [chkK_true hc, force_eq, join_eq, lenK_eq, hd, ap_of 1 _ [r] _ rfl]
              exact hd2 _
            · refine .inr ⟨env', lo, c', ?_, fun k => ?_⟩
              · intro G N lam a w hok K Q hK
                have hv := evO_ok hok.pools hok.re hes
                have hvx := evO_ok hok.pools hok.re hex
                have hrs := toN_ok htn hv
                have hsrc' := srcOf_ok hok hl hsrc hc hvx
                have hzs : z.cells.size = (lay el).length := (hzl N c w hok.rel).1
                obtain ⟨v', w', hr, N', hext, hok', hrs', hs1, hs2⟩ := app_sound (ty' := o.type) hF hok hu hit hz hisz hzs hbt hl hsrc' hrs hto
                have e1 : cl.args.map a.eval = #[a.eval s, a.eval x] := by
                  have : cl.args = #[s, x] := by rw [← Array.toArray_toList (xs := cl.args), hs]
                  rw [this]; simp
                have e2 : cl.argTypes = #[t, t] := by rw [← Array.toArray_toList (xs := cl.argTypes), hts]
                have hexec : (execOp a.eval o).run P w = .ok (.value v') w' := by
                  simp only [execOp, hop, resolve, hcl, Sem.run_bind, Sem.run_pure, Result.andThen_ok, invoke, e1, e2]
                  show (do pure (Next.value (← Builtin.append_ #[t, t] o.type #[a.eval s, a.eval x])) : Sem Next).run P w = _
                  exact run_v' hr
                refine wpOp_value ho hg hexec (hK _ _ ?_)
                refine ⟨N', lam, hext, hok'.set hset (fun _ => ?_) (fun s w g h => by cases h) (fun s w h => by cases h), hs1, hs2⟩
                simp only [resEnt, entSh, REnt]
                exact hrs'
              · simp only [chkK_true hc, force_eq, join_eq, lenK_eq, hd, ap_of 1 _ [r] _ rfl]
                exact hd2 _
        · exact .inl fun k => chkK_false hc
      · exact .inl fun k => rfl
    · exact .inl fun k => rfl
  · exact .inl fun k => rfl
end Go.Proofs.YtaekfgbfpfecdaaGreat.VM

/- Functions that are called: what is known of them, what is handed to them; no conditions but those that each theorem names. -/
namespace Go.Proofs.YtaekfgbfpfecdaaGreat.VM
open Go
set_option linter.unusedVariables false
set_option linter.unusedSimpArgs false
variable {P : Program} [Df]
set_option linter.unusedSectionVars false

def RShs (N : Nm) : List Sh → List Nat → List Value → Prop
  | [], [], [] => True
  | s :: ss, x :: xs, v :: vs => RSh N s x v ∧ RShs N ss xs vs
  | _, _, _ => False
theorem RShs.mono {N N' : Nm} (h : Ext N N') : ∀ {ss : List Sh} {xs : List Nat} {vs : List Value}, RShs N ss xs vs → RShs N' ss xs vs
  | [], [], [], _ => trivial
  | s :: ss, x :: xs, v :: vs, r => ⟨r.1.mono h, RShs.mono h r.2⟩
  | [], [], _ :: _, r => r.elim
  | [], _ :: _, _, r => r.elim
  | _ :: _, [], _, r => r.elim
  | _ :: _, _ :: _, [], r => r.elim
theorem RShs.app {N : Nm} : ∀ {ss : List Sh} {xs : List Nat} {vs : List Value} {ss' : List Sh} {xs' : List Nat} {vs' : List Value}, RShs N ss xs vs → RShs N ss' xs' vs' → RShs N (ss ++ ss') (xs ++ xs') (vs ++ vs')
  | [], [], [], _, _, _, _, r => r
  | s :: ss, x :: xs, v :: vs, _, _, _, h, r => ⟨h.1, RShs.app h.2 r⟩
  | [], [], _ :: _, _, _, _, h, _ => h.elim
  | [], _ :: _, _, _, _, _, h, _ => h.elim
  | _ :: _, [], _, _, _, _, h, _ => h.elim
  | _ :: _, _ :: _, [], _, _, _, h, _ => h.elim
theorem RShs.len {N : Nm} : ∀ {ss : List Sh} {xs : List Nat} {vs : List Value}, RShs N ss xs vs → xs.length = ss.length ∧ vs.length = ss.length
  | [], [], [], _ => ⟨rfl, rfl⟩
  | s :: ss, x :: xs, v :: vs, h => by simp [RShs.len h.2]
  | [], [], _ :: _, h => h.elim
  | [], _ :: _, _, h => h.elim
  | _ :: _, [], _, h => h.elim
  | _ :: _, _ :: _, [], h => h.elim

/-- What a call hands back. -/
def RRes (N : Nm) (rs : List Sh) (xs : List Nat) (v : Value) : Prop :=
  (∃ s x, rs = [s] ∧ xs = [x] ∧ RSh N s x v) ∨ (rs.length ≠ 1 ∧ ∃ vs : Array Value, v = .tuple vs ∧ RShs N rs xs vs.toList)
theorem entSh_ok {N : Nm} {lam : Nat → Nat} {s : Sh} {x : Nat} {v : Value} (h : RSh N s x v) : REnt N lam (entSh s x) v := by
  unfold entSh
  split
  · next i =>
    simp only [RSh, RK] at h
    simp only [REnt]
    exact h.2.1
  · simp only [REnt]; exact h
theorem entShs_ok {N : Nm} {lam : Nat → Nat} : ∀ {ss : List Sh} {xs : List Nat} {vs : List Value}, RShs N ss xs vs → REnts N lam (entShs ss xs) vs
  | [], [], [], _ => by simp [entShs, REnts]
  | s :: ss, x :: xs, v :: vs, h => by
    simp only [entShs, REnts]
    exact ⟨v, vs, rfl, entSh_ok h.1, entShs_ok h.2⟩
  | [], [], _ :: _, h => h.elim
  | [], _ :: _, _, h => h.elim
  | _ :: _, [], _, h => h.elim
  | _ :: _, _ :: _, [], h => h.elim
theorem resEnt_ok {N : Nm} {lam : Nat → Nat} {rs : List Sh} {xs : List Nat} {v : Value} (h : RRes N rs xs v) : REnt N lam (resEnt rs xs) v := by
  rcases h with ⟨s, x, rfl, rfl, h⟩ | ⟨h1, vs, rfl, h2⟩
  · exact entSh_ok h
  · unfold resEnt
    split
    · exact absurd rfl h1
    · simp only [REnt]
      exact ⟨vs, rfl, entShs_ok h2⟩

theorem takeS_eq : ∀ (n : Nat) (l : List Sh), takeS n l = l.take n
  | 0, l => by cases l <;> rfl
  | n + 1, [] => rfl
  | n + 1, a :: l => by simp [takeS, takeS_eq n l]
theorem dropS_eq : ∀ (n : Nat) (l : List Sh), dropS n l = l.drop n
  | 0, l => by cases l <;> rfl
  | n + 1, [] => rfl
  | n + 1, a :: l => by simp [dropS, dropS_eq n l]
theorem lenS_eq : ∀ l : List Sh, lenS l = l.length
  | [] => rfl
  | _ :: l => by simp [lenS, lenS_eq l]
theorem appL_eq : ∀ l m, appL l m = l ++ m
  | [], m => rfl
  | a :: l, m => by simp [appL, appL_eq l m]
theorem toNs_ok {N : Nm} (hp : Pools N) {lam : Nat → Nat} {env : Env} {lo : Lo} {a : Act} {w : World} (hE : RE N lam env lo a w) : ∀ {ss : List Sh} {args : List Operand} {l : List (Bool × Nat)}, toNs env ss args = some l →
    RShs N ss (l.map (·.2)) (args.map a.eval)
  | [], [], l, h => by cases h; trivial
  | [], _ :: _, _, h => by cases h
  | _ :: _, [], _, h => by cases h
  | s :: ss, x :: xs, l, h => by
    simp only [toNs] at h
    split at h
    · next e he =>
      split at h
      · next n hn =>
        split at h
        · next r hr =>
          cases h
          obtain ⟨fl, n⟩ := n
          exact ⟨toN_ok hn (evO_ok hp hE he), toNs_ok hp hE hr⟩
        · cases h
      · cases h
    · cases h
theorem capFit_ok {N : Nm} : ∀ {ss : List Sh} {r : List (Sh × Nat)} {m : List (Bool × Nat)} {vs : List Value}, capFit ss r = some m → RShs N (r.map (·.1)) (r.map (·.2)) vs → RShs N ss (m.map (·.2)) vs
  | [], [], m, vs, h, hr => by cases h; exact hr
  | [], _ :: _, _, _, h, _ => by cases h
  | _ :: _, [], _, _, h, _ => by cases h
  | s :: ss, (s', x) :: r, m, vs, h, hr => by
    simp only [capFit] at h
    have h0 := cond_some h
    clear h
    obtain ⟨h1, h⟩ := h0
    split at h
    · next q hq =>
      cases h
      cases vs with
      | nil => exact hr.elim
      | cons v vs => exact ⟨fitSh_ok h1 hr.1, capFit_ok hq hr.2⟩
    · cases h
theorem fcap_lt (x i : Nat) : fcap x i < 2 ^ 64 := by
  have h : Nat.land (Nat.shiftRight x (Nat.add 10 (Nat.mul 22 i))) 4194303 = (Nat.shiftRight x (Nat.add 10 (Nat.mul 22 i))) % 4194304 := Nat.and_two_pow_sub_one_eq_mod _ 22
  unfold fcap
  rw [shl6, h]
  have := Nat.mod_lt (Nat.shiftRight x (Nat.add 10 (Nat.mul 22 i))) (show 0 < 4194304 by omega)
  omega
theorem capNs_ok {N : Nm} {x : Nat} : ∀ {ls : List (List K)} {i : Nat} {vs : List Value}, vs.length = ls.length →
    (∀ j (h : j < ls.length) (h' : j < vs.length), ∃ g o, vs[j] = .pointer (some ⟨g, o, none⟩) ∧ RP N ls[j] false (fcap x (i + j)) g o ∧ fcap x (i + j) ≠ 0) →
    RShs N ((capNs x ls i).map (·.1)) ((capNs x ls i).map (·.2)) vs
  | [], i, [], _, _ => trivial
  | [], _, _ :: _, h, _ => by cases h
  | _ :: _, _, [], h, _ => by cases h
  | l :: ls, i, v :: vs, h, hj => by
    obtain ⟨g, o, h1, h2, h3⟩ := hj 0 (by simp) (by simp)
    simp only [capNs, List.map_cons]
    refine ⟨?_, capNs_ok (by simpa using h) (fun j hj1 hj2 => ?_)⟩
    · simp only [List.getElem_cons_zero, Nat.add_zero] at h1 h2 h3
      simp only [RSh]
      exact ⟨fcap_lt _ _, .inr ⟨h3, g, o, h1, h2⟩, fun _ => h3⟩
    · obtain ⟨g, o, h1, h2, h3⟩ := hj (j + 1) (by simpa using hj1) (by simpa using hj2)
      simp only [List.getElem_cons_succ] at h1 h2
      have e : i + (j + 1) = Nat.succ i + j := by omega
      rw [e] at h2 h3
      exact ⟨g, o, h1, h2, h3⟩

/-- A function is called, and comes back. -/
def CallTo (P : Program) (g : FuncId) (args : Array Value) (w : World) (R : Value → World → Prop) : Prop :=
  match (callFunc g args).run P w with
  | .ok (.enter f xs) w' => Calls P f xs w' fun
    | .returned v, w'' => R v w''
    | _, _ => False
  | .ok (.value v) w' => R v w'
  | _ => False
theorem wpOp_call {ops : Array Oper} {i : Nat} {o : Oper} (ho : ops[i]? = some o) {a : Act} {w : World} (hw : Region.wanted o (yielded ops a.tmps) = true) {g : FuncId} {args : Array Value} (hx : (execOp a.eval o).run P w = (callFunc g args).run P w)
    {R : Value → World → Prop} (hc : CallTo P g args w R) {K : Act → World → Prop} {Q : Exit → Act → World → Prop} (hK : ∀ v w', R v w' → K (a.put o.dst v) w') : wpOp P ops Q i K a w := by
  unfold wpOp
  simp only [ho, hw, if_true]
  refine .inl ?_
  unfold Oper.wp
  rw [hx]
  unfold CallTo at hc
  generalize (callFunc g args).run P w = r at hc ⊢
  cases r with
  | halt x w' => exact hc.elim
  | ok n w' =>
    cases n <;> first | exact hc.elim | skip
    case value v => exact hK _ _ hc
    case enter f xs =>
      refine Calls.mono hc fun e w'' he => ?_
      cases e with
      | returned v => exact hK _ _ he
      | panicked c => exact he.elim
      | outgrown => exact he.elim

/-- What holds after a call. -/
def Post (G : Nat → Prop) (N : Nm) (w : World) (rs : List Sh) (xs : List Nat) (c' : Core) (v : Value) (w' : World) : Prop :=
  ∃ N', Ext N N' ∧ Rel N' c' w' ∧ Off G N' ∧ Same G w w' ∧ w.heap.size ≤ w'.heap.size ∧ RRes N' rs xs v
/-- What is known of a function. -/
def FunOK (P : Program) (g : FuncId) (F : FunE) : Prop :=
  ∀ (l : List Nat) (c : Core), l.length = F.ps.length → (∀ k, F.f l c k = false) ∨ ∃ xs c', (∀ k, F.f l c k = k xs c') ∧ xs.length = F.rs.length ∧
    ∀ G N w vs, Rel N c w → Pools N → Off G N → In G w → RShs N F.ps l vs → CallTo P g vs.toArray w (Post G N w F.rs xs c')
def FnsOK (P : Program) (fns : List (Nat × FunE)) : Prop := ∀ g F, findFn g fns = some F → FunOK P g F

/-- What a function's value says. -/
def TgtVal (N : Nm) (t : Tgt) (v : Value) : Prop :=
  match t with
  | .one g => capT g = [] ∧ v = .func (.func g) #[] #[]
  | .any x _ => RF N x v
theorem tgtOf_ok {N : Nm} (hp : Pools N) {lam : Nat → Nat} {env : Env} {lo : Lo} {a : Act} {w : World} (hE : RE N lam env lo a w) {I : FI} {dst : Option Nat} {f : Operand} {t : Tgt} (h : tgtOf I dst env f = some t) : TgtVal N t (a.eval f) := by
  unfold tgtOf at h
  split at h
  · next g =>
    split at h
    · next hc => cases h; exact ⟨hc, rfl⟩
    · cases h
  · split at h
    · next fl x he =>
      cases h
      have := evO_ok hp hE he
      simp only [REnt, RSh, RK] at this
      exact this.2
    · cases h
end Go.Proofs.YtaekfgbfpfecdaaGreat.VM

/- Calls, as the machine has them and as the model has them; no conditions but those that each theorem names. -/
namespace Go.Proofs.YtaekfgbfpfecdaaGreat.VM
open Go
set_option linter.unusedVariables false
set_option linter.unusedSimpArgs false
variable {P : Program} [Df]
set_option linter.unusedSectionVars false

theorem toNs_len {env : Env} : ∀ {ss : List Sh} {args : List Operand} {l : List (Bool × Nat)}, toNs env ss args = some l → l.length = ss.length
  | [], [], l, h => by cases h; rfl
  | [], _ :: _, _, h => by cases h
  | _ :: _, [], _, h => by cases h
  | s :: ss, x :: xs, l, h => by
    simp only [toNs] at h
    split at h
    · split at h
      · split at h
        · next r hr => cases h; simp [toNs_len hr]
        · cases h
      · cases h
    · cases h
theorem capFit_len : ∀ {ss : List Sh} {r : List (Sh × Nat)} {m : List (Bool × Nat)}, capFit ss r = some m → m.length = ss.length
  | [], [], m, h => by cases h; rfl
  | [], _ :: _, _, h => by cases h
  | _ :: _, [], _, h => by cases h
  | s :: ss, (s', x) :: r, m, h => by
    simp only [capFit] at h
    have h0 := cond_some h
    clear h
    obtain ⟨h1, h⟩ := h0
    split at h
    · next q hq => cases h; simp [capFit_len hq]
    · cases h

/-- What a call needs of the caller's frame. -/
structure At (G : Nat → Prop) (N : Nm) (lam : Nat → Nat) (env : Env) (lo : Lo) (c : Core) (a : Act) (w : World) : Prop where
  re : RE N lam env lo a w
  rel : Rel N c w
  pools : Pools N
  off : Off G N
  ing : In G w
/-- A call that comes back with these numbers, whatever is there. -/
def Called (P : Program) (env : Env) (c : Core) (g : FuncId) (args : List Operand) (x : Nat) (rs : List Sh) (xs : List Nat) (c' : Core) : Prop :=
  ∀ G N lam lo a w, At G N lam env lo c a w → ∀ vs : List Value, vs.length = (capT g).length →
    (∀ j (h : j < (capT g).length) (h' : j < vs.length), ∃ b o, vs[j] = .pointer (some ⟨b, o, none⟩) ∧ RP N (capT g)[j] false (fcap x j) b o ∧ fcap x j ≠ 0) →
    CallTo P g (args.map a.eval ++ vs).toArray w (Post G N w rs xs c')
theorem callF_def {fns : List (Nat × FunE)} (hfns : FnsOK P fns) (g : FuncId) (args : List Operand) (x : Nat) (env : Env) (c : Core) : (∀ k, callF fns g args x env c k = false) ∨
    ∃ F xs c', findFn g fns = some F ∧ (∀ k, callF fns g args x env c k = k xs c') ∧ xs.length = F.rs.length ∧ Called P env c g args x F.rs xs c' := by
  unfold callF
  cases hF : findFn g fns with
  | none => exact .inl fun k => rfl
  | some F =>
  simp only
  split
  · next l m hl hm =>
    simp only [forceAll_eq, appL_eq, List.map_append]
    have h1 := toNs_len hl
    have h2 := capFit_len hm
    have hps : takeS (lenO args) F.ps ++ dropS (lenO args) F.ps = F.ps := by rw [takeS_eq, dropS_eq, List.take_append_drop]
    have hlen : (l.map (·.2) ++ m.map (·.2)).length = F.ps.length := by
      rw [← hps, List.length_append, List.length_append, List.length_map, List.length_map, h1, h2]
    rcases hfns g F hF _ c hlen with h | ⟨xs, c', h3, h4, h5⟩
    · exact .inl h
    · refine .inr ⟨F, xs, c', rfl, h3, h4, ?_⟩
      intro G N lam lo a w hat vs hvl hvs
      refine h5 G N w _ hat.rel hat.pools hat.off hat.ing ?_
      have q1 := toNs_ok hat.pools hat.re hl
      have q2 := capFit_ok hm (capNs_ok (N := N) (x := x) (ls := capT g) (i := 0) hvl (fun j hj hj' => by
        rw [Nat.zero_add]
        exact hvs j hj hj'))
      have := q1.app q2
      rw [hps] at this
      exact this
  · exact .inl fun k => rfl

theorem beqShs_len : ∀ {l m : List Sh}, beqShs l m = true → l.length = m.length
  | [], [], _ => rfl
  | [], _ :: _, h => by cases h
  | _ :: _, [], h => by cases h
  | a :: l, b :: m, h => by
    simp only [beqShs, Bool.and_eq_true] at h
    simp [beqShs_len h.2]
theorem beqShs_ok {N : Nm} : ∀ {l m : List Sh}, beqShs l m = true → ∀ {xs : List Nat} {vs : List Value}, RShs N l xs vs → RShs N m xs vs
  | [], [], _, _, _, h => h
  | [], _ :: _, h, _, _, _ => by cases h
  | _ :: _, [], h, _, _, _ => by cases h
  | a :: l, b :: m, h, xs, vs, hr => by
    simp only [beqShs, Bool.and_eq_true] at h
    cases xs with
    | nil => cases vs <;> exact hr.elim
    | cons x xs => cases vs with
      | nil => exact hr.elim
      | cons v vs => exact ⟨fitSh_ok h.1 hr.1, beqShs_ok h.2 hr.2⟩
theorem RRes.fit {N : Nm} {l m : List Sh} (h : beqShs l m = true) {xs : List Nat} {v : Value} (hr : RRes N l xs v) : RRes N m xs v := by
  have hlen := beqShs_len h
  rcases hr with ⟨s, x, rfl, rfl, hr⟩ | ⟨h1, vs, rfl, h2⟩
  · cases m with
    | nil => cases hlen
    | cons s' m => cases m with
      | nil =>
        simp only [beqShs, Bool.and_eq_true] at h
        exact .inl ⟨s', x, rfl, rfl, fitSh_ok h.1 hr⟩
      | cons => simp at hlen
  · exact .inr ⟨by omega, vs, rfl, beqShs_ok h h2⟩
theorem CallTo.mono {g : FuncId} {args : Array Value} {w : World} {R R' : Value → World → Prop} (h : CallTo P g args w R) (hr : ∀ v w', R v w' → R' v w') : CallTo P g args w R' := by
  unfold CallTo at *
  generalize (callFunc g args).run P w = r at h ⊢
  cases r with
  | halt x w' => exact h
  | ok n w' =>
    cases n <;> first | exact h | skip
    case value v => exact hr _ _ h
    case enter f xs =>
      refine Calls.mono h fun e w'' he => ?_
      cases e with
      | returned v => exact hr _ _ he
      | panicked c => exact he
      | outgrown => exact he
theorem Post.fit {G : Nat → Prop} {N : Nm} {w : World} {l m : List Sh} (h : beqShs l m = true) {xs : List Nat} {c' : Core} {v : Value} {w' : World} (hr : Post G N w l xs c' v w') : Post G N w m xs c' v w' := by
  obtain ⟨N', e, r, o, s, z, h1⟩ := hr
  exact ⟨N', e, r, o, s, z, h1.fit h⟩
theorem beqShs_refl : ∀ l : List Sh, (∀ s ∈ l, fitSh s s = true) → beqShs l l = true
  | [], _ => rfl
  | a :: l, h => by
    simp only [beqShs, Bool.and_eq_true]
    exact ⟨h a (by simp), beqShs_refl l fun s hs => h s (by simp [hs])⟩

/-- A call through a target. -/
def CalledT (P : Program) (env : Env) (c : Core) (t : Tgt) (args : List Operand) (rs : List Sh) (xs : List Nat) (c' : Core) : Prop :=
  ∀ G N lam lo a w, At G N lam env lo c a w → ∀ v, TgtVal N t v → ∃ (g : FuncId) (vs : Array Value), v = .func (.func g) #[] vs ∧ CallTo P g ((args.map a.eval).toArray ++ vs) w (Post G N w rs xs c')
theorem callD_def {fns : List (Nat × FunE)} (hfns : FnsOK P fns) (args : List Operand) (x : Nat) (env : Env) (c : Core) (rs : List Sh) : ∀ (gs all : List Nat), allRs fns rs gs = true → (∀ k, callD fns args x env c k gs = false) ∨
    ∃ xs c', (∀ k, callD fns args x env c k gs = k xs c') ∧ xs.length = rs.length ∧ CalledT P env c (.any x all) args rs xs c'
  | [], all, _ => .inl fun k => rfl
  | g :: gs, all, ha => by
    simp only [allRs] at ha
    split at ha
    · next F hF =>
      simp only [Bool.and_eq_true] at ha
      simp only [callD]
      cases hq : Nat.beq (Nat.land x 1023) (Nat.succ g) with
      | false => simpa only [cond_false] using callD_def hfns args x env c rs gs all ha.2
      | true =>
        have hq := Nat.eq_of_beq_eq_true hq
        simp only [cond_true]
        rcases callF_def hfns g args x env c with h | ⟨F', xs, c', h1, h2, h3, h4⟩
        · exact .inl h
        · rw [hF] at h1
          cases h1
          refine .inr ⟨xs, c', h2, by rw [h3, beqShs_len ha.1], ?_⟩
          intro G N lam lo a w hat v hv
          rcases hv with ⟨rfl, _⟩ | ⟨g', vs, p1, p2, p3, p4⟩
          · have : Nat.land 0 1023 = 0 := rfl
            rw [this] at hq; cases hq
          · have hg : g' = g := by
              have : g' + 1 = Nat.succ g := by rw [← p1, hq]
              exact Nat.succ.inj this
            subst hg
            refine ⟨g', vs, p2, ?_⟩
            have := h4 G N lam lo a w hat vs.toList p3 (fun j hj hj' => by
              obtain ⟨b, o, r1, r2, r3⟩ := p4 j hj hj'
              exact ⟨b, o, by simpa using r1, r2, r3⟩)
            have e : (args.map a.eval ++ vs.toList).toArray = (args.map a.eval).toArray ++ vs := by simp
            rw [e] at this
            exact this.mono fun v w' h => h.fit ha.1
    · cases ha
theorem callT_def {I : FI} (hfns : FnsOK P I.fns) (t : Tgt) (args : List Operand) (env : Env) (c : Core) (rs : List Sh) (hrs : tgtRs I t = some rs) : (∀ k, callT I t rs args env c k = false) ∨
    ∃ xs c', (∀ k, callT I t rs args env c k = k xs c') ∧ xs.length = rs.length ∧ CalledT P env c t args rs xs c' := by
  cases t with
  | one g =>
    simp only [callT]
    simp only [tgtRs, candRs] at hrs
    rcases callF_def hfns g args 0 env c with h | ⟨F, xs, c', h1, h2, h3, h4⟩
    · exact .inl h
    · rw [h1] at hrs
      cases hrs
      refine .inr ⟨xs, c', h2, h3, ?_⟩
      intro G N lam lo a w hat v hv
      obtain ⟨e1, rfl⟩ := hv
      refine ⟨g, #[], rfl, ?_⟩
      have := h4 G N lam lo a w hat [] (by rw [e1]; rfl) (fun j hj hj' => absurd hj' (by simp))
      rw [List.append_nil] at this
      rw [Array.append_empty]
      exact this
  | any x gs =>
    simp only [callT]
    cases hq : allRs I.fns rs gs with
    | false => exact .inl fun k => rfl
    | true => simpa only [cond_true] using callD_def hfns args x env c rs gs gs hq
end Go.Proofs.YtaekfgbfpfecdaaGreat.VM

/- An operation that calls, as the machine has it and as the model has it; no conditions but those that each theorem names. -/
namespace Go.Proofs.YtaekfgbfpfecdaaGreat.VM
open Go
set_option linter.unusedVariables false
set_option linter.unusedSimpArgs false
variable {P : Program} [Df]
set_option linter.unusedSectionVars false

theorem OK.at {nt : Nat} {G : Nat → Prop} {N : Nm} {lam : Nat → Nat} {env env' : Env} {lo : Lo} {c : Core} {a : Act} {w : World} (h : OK nt G N lam env lo c a w) (hre : RE N lam env' lo a w) : At (Gl G lam lo) N lam env' lo c a w := by
  refine ⟨hre, h.rel, h.pools, h.off', ?_⟩
  intro g hg
  rcases hg with hg | ⟨i, e, hi, rfl⟩
  · exact h.ing g hg
  · exact h.re.lt hi
theorem OK.post {nt : Nat} {G : Nat → Prop} {N : Nm} {lam : Nat → Nat} {env : Env} {lo : Lo} {c : Core} {a : Act} {w : World} (h : OK nt G N lam env lo c a w) {rs : List Sh} {xs : List Nat} {c' : Core} {v : Value} {w' : World}
    (hp : Post (Gl G lam lo) N w rs xs c' v w') : ∃ N', Ext N N' ∧ OK nt G N' lam env lo c' a w' ∧ Same G w w' ∧ w.heap.size ≤ w'.heap.size ∧ RRes N' rs xs v := by
  obtain ⟨N', e, r, o, s, z, h1⟩ := hp
  refine ⟨N', e, ⟨h.re.mono e (fun i e hi => s.2 _ (.inr ⟨i, e, hi, rfl⟩)) (fun i e hi b g o' k mo sp hb hg => ?_), r, h.pools.mono e, fun g b o' k mo sp hg hb => o g b o' k mo sp (.inl hg) hb, h.ing.le z, h.prot, h.nt, h.df⟩, ⟨s.1, fun g hg => s.2 g (.inl hg)⟩, z, h1⟩
  exact o g b o' k mo sp (.inr ⟨i, _, hi, hg⟩) hb

theorem call_exec {o : Oper} {cl : Call} (hop : o.op = .call cl) {f : Operand} (hcl : cl.callee = .value f) {a : Act} {w : World} {g : FuncId} {vs : Array Value} (hf : a.eval f = .func (.func g) #[] vs) :
    (execOp a.eval o).run P w = (callFunc g ((cl.args.toList.map a.eval).toArray ++ vs)).run P w := by
  have e : (cl.args.toList.map a.eval).toArray = cl.args.map a.eval := by
    rw [← Array.toList_map, Array.toArray_toList]
  simp only [execOp, hop, resolve, hcl, hf, Deferred.ofValue, Sem.run_bind, Sem.run_pure, Result.andThen_ok, invoke, e, Array.empty_append]

theorem zerosS_len : ∀ rs : List Sh, (zerosS rs).length = rs.length
  | [] => rfl
  | _ :: l => by simp [zerosS, zerosS_len l]
theorem unwanted_ok {ops : Array Oper} {i : Nat} {o : Oper} (ho : ops[i]? = some o) {a : Act} {w : World} (hw : Region.wanted o (yielded ops a.tmps) = false) {K : Act → World → Prop} {Q : Exit → Act → World → Prop} (hK : K (a.put o.dst undef) w) : wpOp P ops Q i K a w := by
  unfold wpOp
  simp only [ho, hw, Bool.false_eq_true, if_false]
  exact hK

theorem call_ok {ops : Array Oper} {i : Nat} {o : Oper} (ho : ops[i]? = some o) {I : FI} (hfns : FnsOK P I.fns) {cl : Call} (hop : o.op = .call cl) {f : Operand} (hcl : cl.callee = .value f) {env : Env} {lo : Lo} {c : Core} {gd : Gd} (hgd : guardOf ops.toList env o = some gd) :
    Def3 (fun k => denCall I o.dst gd f cl.args.toList env lo c k) (Sound1 P ops i I.nt env lo c) := by
  unfold denCall
  cases ht : tgtOf I o.dst (genv gd env) f with
  | none => exact .inl fun k => rfl
  | some t =>
  simp only
  cases hrs : tgtRs I t with
  | none => exact .inl fun k => rfl
  | some rs =>
  simp only
  cases gd with
  | none =>
    simp only [genv] at ht
    rcases callT_def (P := P) hfns t cl.args.toList env c rs hrs with h | ⟨xs, c', h1, h2, h3⟩
    · refine .inl fun k => ?_
      cases manyC t with
      | false => exact h _
      | true => simp only [join_eq]; exact h _
    · rcases setK_def I.nt I.forced o.dst none (resEnt rs xs) env with hd | ⟨env', hd, hset⟩
      · refine .inl fun k => ?_
        cases manyC t with
        | false => simp only [h1]; exact hd _
        | true => simp only [join_eq, h1, ap_of (lenS rs) _ xs c' (by rw [lenS_eq]; exact h2)]; exact hd _
      · refine .inr ⟨env', lo, c', ?_, fun k => ?_⟩
        · intro G N lam a w hok K Q hK
          have hg := guard_none hgd
          obtain ⟨g, vs, hv, hc⟩ := h3 (Gl G lam lo) N lam lo a w (hok.at hok.re) _ (tgtOf_ok hok.pools hok.re ht)
          refine wpOp_call ho (by simp [Region.wanted, hg]) (call_exec hop hcl hv) hc fun v w' hp => hK _ _ ?_
          obtain ⟨N', e, hok', hs1, hs2, hres⟩ := hok.post hp
          exact ⟨N', lam, e, hok'.set hset (fun _ => resEnt_ok hres) (fun s w g h => by cases h) (fun s w h => by cases h), hs1, hs2⟩
        · cases manyC t with
          | false => simp only [h1]; exact hd _
          | true => simp only [join_eq, h1, ap_of (lenS rs) _ xs c' (by rw [lenS_eq]; exact h2)]; exact hd _
  | some swg =>
    obtain ⟨s, wt, gb⟩ := swg
    simp only [genv] at ht
    simp only [join_eq]
    cases gb with
    | false =>
      simp only [cond_false, ap_of (lenS rs) _ (zerosS rs) c (by rw [lenS_eq]; exact zerosS_len rs)]
      rcases setK_def I.nt I.forced o.dst (some (s, wt, false)) (resEnt rs (zerosS rs)) env with hd | ⟨env', hd, hset⟩
      · exact .inl fun k => hd _
      · refine .inr ⟨env', lo, c, ?_, fun k => hd _⟩
        intro G N lam a w hok K Q hK
        obtain ⟨hw, hg⟩ := guard_wanted hok.re hgd
        refine unwanted_ok ho hw (hK _ _ (hok.set hset (fun h => ?_) hg (fun _ _ _ => rfl)).after)
        have := h _ _ _ rfl
        cases this
    | true =>
      simp only [cond_true]
      rcases callT_def (P := P) hfns t cl.args.toList (unlock s wt env) c rs hrs with h | ⟨xs, c', h1, h2, h3⟩
      · exact .inl fun k => h _
      · simp only [h1, ap_of (lenS rs) _ xs c' (by rw [lenS_eq]; exact h2)]
        rcases setK_def I.nt I.forced o.dst (some (s, wt, true)) (resEnt rs xs) env with hd | ⟨env', hd, hset⟩
        · exact .inl fun k => hd _
        · refine .inr ⟨env', lo, c', ?_, fun k => hd _⟩
          intro G N lam a w hok K Q hK
          obtain ⟨hw, hg⟩ := guard_wanted hok.re hgd
          obtain ⟨es, k1, k2⟩ := hg _ _ _ rfl
          have hre := hok.re.unlock ⟨es, k1, k2⟩
          obtain ⟨g, vs, hv, hc⟩ := h3 (Gl G lam lo) N lam lo a w (hok.at hre) _ (tgtOf_ok hok.pools hre ht)
          refine wpOp_call ho hw (call_exec hop hcl hv) hc fun v w' hp => hK _ _ ?_
          obtain ⟨N', e, hok', hs1, hs2, hres⟩ := hok.post hp
          exact ⟨N', lam, e, hok'.set hset (fun _ => resEnt_ok hres) hg (fun s w h => by cases h), hs1, hs2⟩
end Go.Proofs.YtaekfgbfpfecdaaGreat.VM

/- A slice without elements; bytes as a string; as the machine has them and as the model has them; no conditions but those that each theorem names. -/
namespace Go.Proofs.YtaekfgbfpfecdaaGreat.VM
open Go
set_option linter.unusedVariables false
set_option linter.unusedSimpArgs false
variable {P : Program} [Df]
set_option linter.unusedSectionVars false

theorem OK.pushed {nt : Nat} {G G' : Nat → Prop} {N : Nm} {lam : Nat → Nat} {env : Env} {lo : Lo} {c : Core} {a : Act} {w w' : World} (h : OK nt G N lam env lo c a w) {ob : Obj} (hw : w'.heap = w.heap.push ob) (hG : ∀ g, G' g → G g ∨ g = w.heap.size) : OK nt G' N lam env lo c a w' := by
  obtain ⟨g1, g2, g3⟩ := push_get hw
  have hcell : ∀ b g o k mo sp, N.ln b = some (.cell g o k mo sp) → g < w.heap.size := by
    intro b g o k mo sp hb
    obtain ⟨arr, ty, v, hw', _⟩ := h.rel.cell b g o k mo sp hb
    exact (Array.getElem?_eq_some_iff.1 hw').1
  refine ⟨h.re.mono (Ext.refl N) (fun i e hi => g2 _ (h.re.lt hi)) h.re.off, h.rel.keep fun b g o k mo sp hb => g2 g (hcell b g o k mo sp hb), h.pools, fun g b o k mo sp hg hb => ?_, fun g hg => ?_, fun i e hi hg => ?_, h.nt, h.df⟩
  · rcases hG g hg with h1 | rfl
    · exact h.off g b o k mo sp h1 hb
    · have := hcell _ _ _ _ _ _ hb
      omega
  · rcases hG g hg with h1 | rfl
    · have := h.ing g h1
      omega
    · omega
  · rcases hG _ hg with h1 | h1
    · exact h.prot i e hi h1
    · have := h.re.lt hi
      omega
theorem slmk_parts {a : Nat} (ha : a < 4194304) : slp (slmk (Nat.shiftLeft a 6) 0 0 1) = 64 * a ∧ sln (slmk (Nat.shiftLeft a 6) 0 0 1) = 0 ∧ scp (slmk (Nat.shiftLeft a 6) 0 0 1) = 0 ∧ sex (slmk (Nat.shiftLeft a 6) 0 0 1) = 1 ∧ slmk (Nat.shiftLeft a 6) 0 0 1 < 2 ^ 64 := by
  have e : slmk (Nat.shiftLeft a 6) 0 0 1 = 64 * a + 4611686018427387904 := by
    unfold slmk
    rw [shl6]
    rfl
  have l1 : ∀ x k, Nat.land x (2 ^ k - 1) = x % 2 ^ k := fun x k => Nat.and_two_pow_sub_one_eq_mod x k
  have r1 : ∀ x k, Nat.shiftRight x k = x / 2 ^ k := fun x k => Nat.shiftRight_eq_div_pow x k
  rw [e]
  refine ⟨?_, ?_, ?_, ?_, by omega⟩
  · have := l1 (64 * a + 4611686018427387904) 28
    show Nat.land _ 268435455 = _
    rw [show (268435455 : Nat) = 2 ^ 28 - 1 from rfl, this]
    omega
  · show Nat.land (Nat.shiftRight _ 28) 131071 = _
    rw [show (131071 : Nat) = 2 ^ 17 - 1 from rfl, l1, r1]
    omega
  · show Nat.land (Nat.shiftRight _ 45) 131071 = _
    rw [show (131071 : Nat) = 2 ^ 17 - 1 from rfl, l1, r1]
    omega
  · show Nat.shiftRight _ 62 = _
    rw [r1]
    omega
theorem empty_ok (hF : Facts P) {ops : Array Oper} {i : Nat} {o : Oper} (ho : ops[i]? = some o) (hg : o.guard = none) {I : FI} {t len : Nat} {ps : Array (Nat × Operand)} (hop : o.op = .buildSlice t len ps) (hlen : Nat.beq len 0 = true) {env : Env} {lo : Lo} {c : Core} :
    Def3 (fun k => denEmpty I o.dst t ps.toList env lo c k) (Sound1 P ops i I.nt env lo c) := by
  have hlen := Nat.eq_of_beq_eq_true hlen
  subst hlen
  unfold denEmpty
  have f1 := hF.sli t
  generalize ty t = r at f1
  obtain ⟨td, n⟩ := r
  split
  · next d el n' hd htd hps =>
    cases htd
    have hu := f1 _ _ rfl
    cases q : (zeroOk el && Nat.blt 0 (lenK (lay el)) && Nat.beq (ty el).size (lenK (lay el))) with
    | false => exact .inl fun k => rfl
    | true =>
    simp only [Bool.and_eq_true, blt_eq, decide_eq_true_eq, lenK_eq] at q
    obtain ⟨⟨q1, q2⟩, q3⟩ := q
    have q3 := Nat.eq_of_beq_eq_true q3
    obtain ⟨hsz, _⟩ := hF.size el (by omega)
    obtain ⟨it, z, hit, hz, _, _⟩ := hF.zero el q1
    simp only [cond_true]
    rcases setK_def I.nt I.forced o.dst none (.n (.sli (lay el)) false (slmk (Nat.shiftLeft c.t 6) 0 0 1)) env with hd | ⟨env', hd, hset⟩
    · exact .inl fun k => hd _
    · refine .inr ⟨env', lo, c, ?_, fun k => hd _⟩
      intro G N lam a w hok K Q hK
      have hr : (execOp a.eval o).run P w = .ok (.value (.slice (some ⟨w.heap.size, 0, none⟩) 0 0)) { w with heap := w.heap.push (.cells #[] el (0, 0)) } := by
        have h1 : (Instr.buildSlice t 0 (ps.map fun (i, x) => (i, a.eval x))).run P w = .ok (.slice (some ⟨w.heap.size, 0, none⟩) 0 0) { w with heap := w.heap.push (.cells #[] el (0, 0)) } := by
          have hnil : (ps.map fun (i, x) => (i, a.eval x)).toList = [] := by simp [hps]
          unfold Instr.buildSlice
          simp only [Sem.run_bind, run_underlying hu w, Result.andThen_ok, run_size hit w, hnil]
          have hr0 : Array.range 0 = #[] := rfl
          simp [Instr.fill, newRow, newObj, hr0]
          rfl
        simp only [execOp, hop]
        simp only [Sem.run_bind, h1, Result.andThen_ok, Sem.run_pure]
      refine wpOp_value ho hg hr (hK _ _ ?_)
      have hok' := hok.pushed (G' := G) (w' := { w with heap := w.heap.push (.cells #[] el (0, 0)) }) rfl (fun g hg => .inl hg)
      obtain ⟨e1, e2, e3, e4, e5⟩ := slmk_parts hok.rel.tl.2
      refine ⟨N, lam, Ext.refl N, hok'.set hset (fun _ => ?_) (fun s w g h => by cases h) (fun s w h => by cases h), ⟨⟨rfl, rfl⟩, fun g hg => ?_⟩, by simp⟩
      · simp only [REnt, RSh]
        refine ⟨e5, .inr (.inr ⟨c.t, w.heap.size, 0, 0, e1, hok.rel.tl.1, by rw [e2], by omega, by omega, by rw [e3]; have := hok.rel.tl.2; omega, fun j hj => ?_, fun _ => e3.symm, fun h => ?_⟩)⟩
        · rw [e3] at hj; omega
        · rw [e4] at h; cases h
      · have := hok.ing g hg
        show (w.heap.push (.cells #[] el (0, 0)))[g]? = _
        rw [Array.getElem?_push]
        simp [Nat.ne_of_lt this]
  · exact .inl fun k => rfl

theorem foldl_push : ∀ (ns : List Int) (l : List UInt8), ns.foldl (fun r n => r.push (UInt8.ofNat n.toNat)) (⟨l.toArray⟩ : ByteArray) = ⟨(l ++ ns.map fun n => UInt8.ofNat n.toNat).toArray⟩
  | [], l => by simp
  | n :: ns, l => by
    rw [List.foldl_cons]
    have : (⟨l.toArray⟩ : ByteArray).push (UInt8.ofNat n.toNat) = ⟨(l ++ [UInt8.ofNat n.toNat]).toArray⟩ := by
      apply ByteArray.ext
      simp [ByteArray.push]
    rw [this, foldl_push ns]
    simp
theorem packB_succ (m p n : Nat) : packB m p (n + 1) = packB m p n + (m / 2 ^ (p + 64 * n) % 256) * 2 ^ (8 * n) := by
  have e0 : packB m p (n + 1) = Nat.add (packB m p n) (Nat.shiftLeft (Nat.land (Nat.shiftRight m (Nat.add p (Nat.shiftLeft n 6))) 255) (Nat.shiftLeft n 3)) := rfl
  have e1 : Nat.shiftLeft n 3 = 8 * n := by
    have : Nat.shiftLeft n 3 = n <<< 3 := rfl
    rw [this, Nat.shiftLeft_eq]; omega
  have e2 : ∀ a b, Nat.shiftLeft a b = a * 2 ^ b := fun a b => Nat.shiftLeft_eq a b
  have e3 : ∀ a b, Nat.shiftRight a b = a / 2 ^ b := fun a b => Nat.shiftRight_eq_div_pow a b
  have e4 : ∀ x, Nat.land x 255 = x % 256 := fun x => Nat.and_two_pow_sub_one_eq_mod x 8
  rw [e0, e1, shl6, e2, e3, e4]
  rfl
theorem valB_app (l : List UInt8) (b : UInt8) : valB (l ++ [b]) = valB l + b.toNat * 2 ^ (8 * l.length) := by
  have h1 := encB_app l [b]
  have h2 := encB_val (l ++ [b])
  have h3 := encB_val [b]
  rw [List.length_append, List.length_singleton, pow8] at h2
  simp only [valB, List.length_singleton, Nat.mul_zero, Nat.add_zero] at h3
  rw [h3, h2, Nat.mul_add, Nat.mul_comm _ (2 ^ (8 * 1))] at h1
  have h4 : (2 : Nat) ^ (8 * 1) = 256 := rfl
  rw [h4, Nat.mul_comm (2 ^ (8 * l.length)) b.toNat] at h1
  omega
/-- The bytes of a row of lanes. -/
def laneB (m p n : Nat) : List UInt8 := (List.range n).map fun i => UInt8.ofNat (m / 2 ^ (p + 64 * i) % 256)
theorem laneB_len (m p n : Nat) : (laneB m p n).length = n := by simp [laneB]
theorem packB_eq (m p : Nat) : ∀ n, packB m p n = valB (laneB m p n)
  | 0 => rfl
  | n + 1 => by
    have e : laneB m p (n + 1) = laneB m p n ++ [UInt8.ofNat (m / 2 ^ (p + 64 * n) % 256)] := by
      unfold laneB
      rw [List.range_succ, List.map_append]
      rfl
    rw [e, valB_app, packB_succ, packB_eq m p n, laneB_len]
    have : (UInt8.ofNat (m / 2 ^ (p + 64 * n) % 256)).toNat = m / 2 ^ (p + 64 * n) % 256 := by simp
    rw [this]
theorem bytS_eq {s : Nat} (bs : List UInt8) : bytS s (valB bs) bs.length = s + (valB bs * 2 ^ sTop s + 8 * bs.length) := by
  have e3 : Nat.shiftLeft bs.length 3 = 8 * bs.length := by
    have : Nat.shiftLeft bs.length 3 = bs.length <<< 3 := rfl
    rw [this, Nat.shiftLeft_eq]; omega
  have e4 : ∀ a b, Nat.shiftLeft a b = a * 2 ^ b := fun a b => Nat.shiftLeft_eq a b
  unfold bytS
  rw [lg_eq, e3, e4]
  rfl
theorem lane_byte {m p n i : Nat} (hi : i < n) (h : lane (rd m p n) i < 256) : m / 2 ^ (p + 64 * i) % 256 = lane (rd m p n) i := by
  have h8 : (256 : Nat) = 2 ^ 8 := rfl
  apply Nat.eq_of_testBit_eq
  intro b
  rw [h8, Nat.testBit_mod_two_pow, Nat.testBit_div_two_pow]
  by_cases hb : b < 8
  · rw [testBit_lane, testBit_rd]
    have h1 : b < 64 := by omega
    have h2 : 64 * i + b < 64 * n := by omega
    have h3 : p + 64 * i + b = p + (64 * i + b) := by omega
    have h4 : b + (p + 64 * i) = p + (64 * i + b) := by omega
    simp [hb, h1, h2, h3, h4]
  · rw [testBit_lt (k := 8) h (by omega)]
    simp [hb]
theorem str_ok (hF : Facts P) {ops : Array Oper} {i : Nat} {o : Oper} (ho : ops[i]? = some o) (hg : o.guard = none) {I : FI} {t t' : Nat} {X : Operand} (hop : o.op = .convert t t' X) {env : Env} {lo : Lo} {c : Core} {l : List K} {fl : Bool} {x : Nat} (hX : evO env X = some (.n (.sli l) fl x)) :
    Def3 (fun k => denStr I o.dst t t' l x env lo c k) (Sound1 P ops i I.nt env lo c) := by
  unfold denStr
  have f1 := hF.sli t
  have f2 := hF.str t'
  generalize ty t = r at f1
  generalize ty t' = r' at f2
  obtain ⟨td, n1⟩ := r
  obtain ⟨td', n2⟩ := r'
  split
  · next el _ _ htd htd' =>
    cases htd
    cases htd'
    have hu := f1 _ _ rfl
    have hu' := f2 _ rfl
    have f3 := hF.int el
    generalize ty el = r3 at f3
    obtain ⟨td3, n3⟩ := r3
    split
    · next _ htd3 =>
      cases htd3
      have hue := f3 _ _ rfl
      cases hb : (beqKs l (lay el) && beqKs l [.int .u8]) with
      | false => exact .inl fun k => rfl
      | true =>
      rw [Bool.and_eq_true] at hb
      have hl1 := beqKs_eq hb.1
      have hl2 := beqKs_eq hb.2
      have hb1 := hb.1
      simp only [cond_true, force_eq, lg_eq]
      cases hq : (cond (Nat.blt (sln x) 65536) (cond (Nat.blt (sTop c.s) 8796093022208) (Nat.beq (deadBits c.d (slp x) (Nat.mul (sln x) (lenK l))) 0) false) false) with
      | false => exact .inl fun k => rfl
      | true =>
      obtain ⟨b1, b2⟩ := condT hq
      obtain ⟨b2, b3⟩ := condT b2
      rw [blt_eq, decide_eq_true_eq] at b1 b2
      simp only [cond_true]
      generalize hn : sln x = n at b1
      rcases setK_def I.nt I.forced o.dst none (.n (.one .str) false (Nat.add (Nat.shiftLeft (sTop c.s) 16) n)) env with hd | ⟨env', hd, hset⟩
      · exact .inl fun k => hd _
      · refine .inr ⟨env', lo, _, ?_, fun k => hd _⟩
        intro G N lam a w hok K Q hK
        have hv := evO_ok hok.pools hok.re hX
        have hlen1 : (lay el).length = 1 := by rw [← hl1, hl2]; rfl
        have hsrc : srcOf el (.n (.sli l) fl x) lo c = some (some (Nat.beq (deadBits c.d (slp x) (Nat.mul (sln x) (lenK l))) 0), sln x, rd c.m (slp x) (Nat.mul (sln x) (lenK l)), false) := by
          simp only [srcOf, hb1, cond_true]
        have S := srcOf_ok hok (by omega) hsrc (fun b h => by cases h; exact b3) hv
        rw [hn] at S
        have hmul : Nat.mul n (lenK l) = n := by
          rw [lenK_eq, hl2]
          exact Nat.mul_one n
        rw [hmul] at S
        -- the bytes
        have hbytes : ∃ u, (execOp a.eval o).run P w = .ok (.value (.string ⟨(laneB c.m (slp x) n).toArray⟩)) w ∧ u = () := by
          refine ⟨(), ?_, rfl⟩
          have hconv : (convert t t' (a.eval X)).run P w = .ok (.string ⟨(laneB c.m (slp x) n).toArray⟩) w := by
            rcases S.val with ⟨h0, aa, cc, hvv⟩ | ⟨h0, aa, cc, news, hvv, hnl, hcell, hrl, hlt⟩
            · subst h0
              rw [hvv, run_convert_bytes_string w t t' el aa 0 cc hu hue hu']
              cases aa with
              | none => simp [Conv.bytesToString, laneB]; rfl
              | some aa =>
                have := run_bytesToString (P := P) w aa 0 cc [] (by simp [loadCells, loadCellsFrom])
                rw [this]
                rfl
            · rw [hvv, run_convert_bytes_string w t t' el (some aa) n cc hu hue hu']
              rw [hlen1, Nat.mul_one] at hnl
              have hrl2 : ∀ j (hj : j < n), ∃ z, news[j]? = some z ∧ z = .int .u8 ((lane (rd c.m (slp x) n) j : Nat) : Int) ∧ lane (rd c.m (slp x) n) j < 256 := by
                intro j hj
                have hjn : j < news.length := by omega
                have hrep := repK_len (lay el) n
                rw [hlen1, Nat.mul_one] at hrep
                have h1 := hrl.2 j (by omega) hjn
                have hk : (repK n (lay el))[j]? = some (.int .u8) := by
                  have := repK_get (lay el) n j 0 hj (by omega)
                  rw [hlen1, Nat.mul_one, Nat.add_zero] at this
                  rw [this, ← hl1, hl2]
                  rfl
                rw [List.getElem?_eq_getElem (by omega)] at hk
                rw [Option.some.inj hk] at h1
                simp only [RK, limK] at h1
                exact ⟨_, List.getElem?_eq_getElem hjn, h1.1, h1.2⟩
              have hnews : news = ((List.range n).map fun j => ((lane (rd c.m (slp x) n) j : Nat) : Int)).map (Value.int .u8) := by
                apply List.ext_getElem?
                intro j
                rcases Nat.lt_or_ge j n with hj | hj
                · obtain ⟨z, h1, h2, _⟩ := hrl2 j hj
                  rw [h1, h2]
                  simp [hj]
                · rw [List.getElem?_eq_none (by omega), List.getElem?_eq_none (by simpa using hj)]
              have hload := run_loadCells_list (P := P) (w := w) aa news hcell
              rw [hnl] at hload
              rw [run_bytesToString (P := P) w aa n cc _ (by rw [← hnews]; exact hload)]
              have e0 : (ByteArray.empty) = (⟨([] : List UInt8).toArray⟩ : ByteArray) := rfl
              rw [e0, foldl_push, List.nil_append, List.map_map]
              congr 3
              unfold laneB
              congr 1
              apply List.map_congr_left
              intro j hj
              have hj := List.mem_range.1 hj
              obtain ⟨z, _, _, h3⟩ := hrl2 j hj
              simp only [Function.comp, Int.toNat_natCast]
              rw [lane_byte hj h3]
          simp only [execOp, hop]
          exact run_v' hconv
        obtain ⟨_, hr, _⟩ := hbytes
        have hcat := bytS_eq (s := c.s) (laneB c.m (slp x) n)
        rw [← packB_eq, laneB_len] at hcat
        obtain ⟨hrel, hext, hst⟩ := hok.rel.addB (s' := bytS c.s (packB c.m (slp x) n) n) (bs := laneB c.m (slp x) n) (show sTop c.s + 8 * (laneB c.m (slp x) n).length < 18446744073709551616 by rw [laneB_len]; omega) (by rw [packB_eq, laneB_len] at *; exact hcat)
        refine wpOp_value ho hg hr (hK _ _ ?_)
        have hok' : OK I.nt G (N.adds (sTop c.s) (laneB c.m (slp x) n)) lam env lo ⟨c.m, c.t, bytS c.s (packB c.m (slp x) n) n, c.d⟩ a w :=
          ⟨hok.re.mono hext (fun _ _ _ => rfl) (fun i e hi b g o k mo sp hb => hok.re.off i e hi b g o k mo sp hb), hrel, hok.pools.mono hext, fun g b o k mo sp hg hb => hok.off g b o k mo sp hg hb, hok.ing, hok.prot, hok.nt, hok.df⟩
        refine ⟨_, lam, hext, hok'.set hset (fun _ => ?_) (fun s w g h => by cases h) (fun s w h => by cases h), Same.refl G w, Nat.le_refl _⟩
        simp only [REnt, RSh, RK]
        rw [cut16]
        have e1 : (sTop c.s * 65536 + n) % 65536 = n := by omega
        have e2 : (sTop c.s * 65536 + n) / 65536 = sTop c.s := by omega
        refine ⟨by omega, laneB c.m (slp x) n, ⟨by rw [e1, laneB_len], fun j hj => ?_, by rw [e1, e2]; omega⟩, rfl⟩
        rw [e2]
        exact hst j hj
    · exact .inl fun k => rfl
  · exact .inl fun k => rfl
end Go.Proofs.YtaekfgbfpfecdaaGreat.VM

