/- Regions whose order is drawn are sound; no conditions but those that each theorem names. -/
import Derived.Test.YtaekfgbfpfecdaaGreatN3

/- One operation, as the machine has it and as the model has it; a region in its written order; no conditions but those that each theorem names. -/
namespace Go.Proofs.YtaekfgbfpfecdaaGreat.VM
open Go
set_option linter.unusedVariables false
set_option linter.unusedSimpArgs false
variable {P : Program} [Df]
set_option linter.unusedSectionVars false

theorem store_ok (hF : Facts P) {ops : Array Oper} {i : Nat} {o : Oper} (ho : ops[i]? = some o) (hgd : o.guard = none) {t : TypeId} {p v : Operand} (hop : o.op = .store t p v) (hdst : o.dst = none)
    {nt : Nat} {env : Env} {lo : Lo} {c : Core} {ep ev : Ent} (hep : evO env p = some ep) (hev : evO env v = some ev) :
    Def3 (fun k => denStore t ep ev lo c (fun lo c => k env lo c)) (Sound1 P ops i nt env lo c) := by
  unfold denStore
  split
  next d n htd =>
  have hsz : (ty t).size = n := by rw [htd]
  have hd : (ty t).desc = d := by rw [htd]
  split
  · next l mo nn fl x =>
    cases q : (Nat.beq n (lenK l) && Nat.blt 0 n) with
    | false => exact .inl fun k => rfl
    | true =>
      simp only [Bool.and_eq_true, blt_eq, decide_eq_true_eq] at q
      have q1 := Nat.eq_of_beq_eq_true q.1
      rw [lenK_eq] at q1
      simp only [cond_true]
      split
      · next y hy =>
        rcases chk_cases (ptrChk c.d mo nn x n) with hc | hc
        · refine .inr ⟨env, lo, _, ?_, fun k => (chkK_true hc).trans (wrK_eq _ _ _ _ _)⟩
          subst q1
          exact storeHeap_ok hF ho hgd hop hdst hep hev hsz q.2 (by rw [hd]; exact hy) hc
        · exact .inl fun k => chkK_false hc
      · exact .inl fun k => rfl
  · next j l off =>
    cases q : (Nat.beq n (lenK l) && Nat.blt 0 n) with
    | false => exact .inl fun k => rfl
    | true =>
      simp only [Bool.and_eq_true, blt_eq, decide_eq_true_eq] at q
      have q1 := Nat.eq_of_beq_eq_true q.1
      rw [lenK_eq] at q1
      simp only [cond_true]
      split
      · next L y hloc =>
        cases hb : beqKs l (takeK n (dropK off L)) with
        | false => exact .inl fun k => rfl
        | true =>
          have hb := beqKs_eq hb
          rw [takeK_eq, dropK_eq] at hb
          simp only [cond_true]
          split
          · next z hz =>
            subst q1
            exact .inr ⟨env, _, c, storeLoc_ok hF ho hgd hop hdst hep hev hsz q.2 hloc hb (by rw [hd]; exact hz), fun k => force_eq _ _⟩
          · exact .inl fun k => rfl
      · exact .inl fun k => rfl
  · exact .inl fun k => rfl

theorem denOp_ok (hF : Facts P) {ops : Array Oper} {i : Nat} {o : Oper} (ho : ops[i]? = some o) {I : FI} (hfns : FnsOK P I.fns) {env : Env} {lo : Lo} {c : Core} {gd : Gd} (hgd : guardOf ops.toList env o = some gd) :
    Def3 (fun k => denOp I o gd env lo c k) (Sound1 P ops i I.nt env lo c) := by
  have light : Def3 (fun k => match sem o (genv gd env) lo c with
      | some (chk, e) => chkK (gchk gd chk) (setK I.nt I.forced o.dst gd e env (fun env => k env lo c))
      | none => false) (Sound1 P ops i I.nt env lo c) := by
    cases hs : sem o (genv gd env) lo c with
    | none => exact .inl fun k => rfl
    | some ce =>
      obtain ⟨chk, e⟩ := ce
      exact light_ok hF ho hgd hs
  unfold denOp
  split
  · next cl hop =>
    split
    · next f hcl => exact call_ok ho hfns hop hcl hgd
    · next b hcl =>
      split
      · next s x hargs => exact append_ok hF ho (guard_none hgd) hop hcl hargs
      · next s hargs => exact clear_ok hF ho (guard_none hgd) hop hcl hargs
      · exact .inl fun k => rfl
      · exact .inl fun k => rfl
      · exact light
    · exact .inl fun k => rfl
  · next t p v hop =>
    split
    · next ep ev hdst hep hev => exact store_ok hF ho (guard_none hgd) hop hdst hep hev
    · exact .inl fun k => rfl
  · next t hop =>
    split
    · exact alloc_ok hF ho (guard_none hgd) hop
    · exact .inl fun k => rfl
  · next t v hop =>
    split
    · next ev hev => exact box_ok hF ho (guard_none hgd) hop hev
    · exact .inl fun k => rfl
  · next t len ps hop =>
    split
    · cases hl : Nat.beq len 0 with
      | true => exact empty_ok hF ho (guard_none hgd) hop hl
      | false => exact buildS_ok hF ho (guard_none hgd) hop
    · exact .inl fun k => rfl
  · next t t' x hop =>
    split
    · next l fl h hx => exact str_ok hF ho (guard_none hgd) hop hx
    · exact light
  · next t x hop =>
    split
    · next e he => exact range_ok hF ho (guard_none hgd) hop he
    · exact .inl fun k => rfl
  · next x hop =>
    split
    · next e he => exact next_ok ho (guard_none hgd) hop he
    · exact .inl fun k => rfl
  · next t x y t' hop =>
    split
    · next f1 h f2 h' hx hy => exact cat_ok ho (guard_none hgd) hop hx hy
    · exact light
  · exact light

/-- A region in its written order. -/
theorem denOps_ok (hF : Facts P) {ops : Array Oper} {I : FI} (hfns : FnsOK P I.fns) : ∀ (n i : Nat) (env : Env) (lo : Lo) (c : Core), i + n = ops.size →
    (∀ k, denOps I ops.toList (ops.toList.drop i) env lo c k = false) ∨ ∃ env' lo' c', (∀ k, denOps I ops.toList (ops.toList.drop i) env lo c k = k env' lo' c') ∧
      ∀ G N lam a w, OK I.nt G N lam env lo c a w → ∀ (Q : Exit → Act → World → Prop), (∀ a' w', After I.nt G N w env' lo' c' a' w' → Q .normal a' w') → wpOps P ops Q (List.range' i n) a w
  | 0, i, env, lo, c, h => by
    have hd : ops.toList.drop i = [] := List.drop_eq_nil_of_le (by rw [Array.length_toList]; omega)
    rw [hd]
    refine .inr ⟨env, lo, c, fun k => rfl, fun G N lam a w hok Q hQ => ?_⟩
    simp only [List.range'_zero, wpOps]
    exact hQ _ _ hok.after
  | n + 1, i, env, lo, c, h => by
    have hi : i < ops.size := by omega
    have hd : ops.toList.drop i = ops[i] :: ops.toList.drop (i + 1) := by
      rw [List.drop_eq_getElem_cons (by simpa using hi)]
      simp
    rw [hd]
    simp only [denOps]
    cases hg : guardOf ops.toList env ops[i] with
    | none => exact .inl fun k => rfl
    | some gd =>
      simp only
      rcases denOp_ok hF (i := i) (by simp [hi]) hfns hg (lo := lo) (c := c) with h1 | ⟨env1, lo1, c1, h1, h2⟩
      · exact .inl fun k => h1 _
      · simp only [h2]
        rcases denOps_ok (ops := ops) hF hfns n (i + 1) env1 lo1 c1 (by omega) with h3 | ⟨env2, lo2, c2, h3, h4⟩
        · exact .inl h3
        · refine .inr ⟨env2, lo2, c2, h3, fun G N lam a w hok Q hQ => ?_⟩
          rw [List.range'_succ, wpOps_cons]
          refine h1 G N lam a w hok _ Q fun a' w' hA => ?_
          obtain ⟨N', lam', e, hok', hs, hz⟩ := hA
          exact h4 G N' lam' a' w' hok' Q fun a'' w'' hA' => hQ _ _ (hA'.trans e hs hz)
end Go.Proofs.YtaekfgbfpfecdaaGreat.VM

/- Regions whose order is drawn: what the check of an order says; no conditions but those that each theorem names. -/
namespace Go.Proofs.YtaekfgbfpfecdaaGreat.VM
open Go
set_option linter.unusedVariables false
set_option linter.unusedSimpArgs false
variable {P : Program} [Df]
set_option linter.unusedSectionVars false

theorem bindsE_eq (e : Edge) : bindsE e = Region.binds .any e := by
  unfold bindsE Region.binds
  cases e.ground <;> rfl
theorem bitOf_eq (m i : Nat) : bitOf m i = m.testBit i := by
  unfold bitOf
  have h : Nat.land (Nat.shiftRight m i) 1 = (m >>> i) &&& 1 := rfl
  rw [h, Nat.and_one_is_mod, Nat.testBit_eq_decide_div_mod_eq, Nat.shiftRight_eq_div_pow]
  cases hq : Nat.beq (m / 2 ^ i % 2) 1
  · symm; rw [decide_eq_false_iff_not]; intro e; rw [e] at hq; cases hq
  · symm; rw [decide_eq_true_eq]; exact Nat.eq_of_beq_eq_true hq
theorem memN_eq (n : Nat) : ∀ l : List Nat, memN n l = true ↔ n ∈ l
  | [] => by simp [memN]
  | a :: l => by
    simp only [memN, List.mem_cons]
    cases hq : Nat.beq a n
    · have : n ≠ a := fun e => by rw [e] at hq; simp at hq
      simp [this, memN_eq n l]
    · have := Nat.eq_of_beq_eq_true hq
      simp [this]
theorem appN_eq : ∀ l m : List Nat, appN l m = l ++ m
  | [], m => rfl
  | a :: l, m => by simp [appN, appN_eq l m]
theorem looksO_eq (ops : Array Oper) (o : Oper) : looksO ops o = o.looksAt ops := by
  unfold looksO Oper.looksAt
  rw [appN_eq]
  congr 1
  cases o.guard with
  | none => rfl
  | some gw =>
    obtain ⟨g, w⟩ := gw
    have hl : ops.toList[g]? = ops[g]? := Array.getElem?_toList
    simp only [nthO_eq, hl]
    cases hg : ops[g]? with
    | none => rfl
    | some og =>
      simp only [Option.bind_some]
      cases hd : og.dst <;> rfl

/-- One operation hangs on another. -/
inductive Dep (ops : Array Oper) : Nat → Nat → Prop where
  | direct {j : Nat} {o : Oper} {e : Edge} : ops[j]? = some o → e ∈ o.after → Region.binds .any e = true → Dep ops j e.on
  | trans {j m i : Nat} : Dep ops j m → Dep ops m i → Dep ops j i
theorem testBit_one_shl (n i : Nat) : (Nat.shiftLeft 1 n).testBit i = decide (n = i) := by
  have h : Nat.shiftLeft 1 n = 2 ^ n := by
    have : Nat.shiftLeft 1 n = 1 <<< n := rfl
    rw [this, Nat.shiftLeft_eq, Nat.one_mul]
  rw [h, Nat.testBit_two_pow]
theorem onMask_spec : ∀ {l : List Edge} {e : Edge}, e ∈ l → Region.binds .any e = true → (onMask l).testBit e.on = true
  | [], e, h, _ => by cases h
  | a :: l, e, h, hb => by
    simp only [onMask, bindsE_eq]
    rcases List.mem_cons.1 h with rfl | h
    · rw [hb]
      simp only [cond_true, testBit_or', testBit_one_shl]
      simp
    · have := onMask_spec h hb
      cases Region.binds .any a
      · exact this
      · simp [testBit_or', this]
theorem depMask_spec {ms : List (Nat × Nat)} : ∀ {l : List Edge} {i : Nat}, (depMask ms l).testBit i = true → ∃ e ∈ l, Region.binds .any e = true ∧ (e.on = i ∨ (lookM e.on ms).testBit i = true)
  | [], i, h => by simp [depMask] at h
  | a :: l, i, h => by
    simp only [depMask, bindsE_eq] at h
    cases hb : Region.binds .any a <;> rw [hb] at h
    · obtain ⟨e, h1, h2⟩ := depMask_spec (l := l) h
      exact ⟨e, List.mem_cons_of_mem _ h1, h2⟩
    · simp only [cond_true, testBit_or', testBit_one_shl, Bool.or_eq_true, decide_eq_true_eq] at h
      rcases h with (h | h) | h
      · exact ⟨a, List.mem_cons_self, hb, .inl h⟩
      · exact ⟨a, List.mem_cons_self, hb, .inr h⟩
      · obtain ⟨e, h1, h2⟩ := depMask_spec (l := l) h
        exact ⟨e, List.mem_cons_of_mem _ h1, h2⟩
theorem lookM_cons (i : Nat) (p : Nat × Nat) (l : List (Nat × Nat)) : lookM i (p :: l) = if p.1 = i then p.2 else lookM i l := by
  obtain ⟨j, m⟩ := p
  simp only [lookM]
  cases h : Nat.beq j i
  · have : j ≠ i := fun e => by rw [e] at h; simp at h
    simp [this]
  · have := Nat.eq_of_beq_eq_true h
    simp [this]
theorem masks_ok {ops : Array Oper} : ∀ (pi ms : List (Nat × Nat)), (∀ j i, (lookM j ms).testBit i = true → Dep ops j i) → ∀ j i, (lookM j (masksOf ops.toList pi ms)).testBit i = true → Dep ops j i
  | [], ms, h => h
  | (a, q) :: pi, ms, h => by
    simp only [masksOf]
    rw [nthO_eq]
    have hl : ops.toList[a]? = ops[a]? := Array.getElem?_toList
    rw [hl]
    cases ho : ops[a]? with
    | none => exact masks_ok pi ms h
    | some o =>
      refine masks_ok pi _ fun j i hb => ?_
      rw [lookM_cons] at hb
      split at hb
      · next hj =>
        simp only at hj hb
        subst hj
        obtain ⟨e, he, hbd, h1⟩ := depMask_spec hb
        have hd := Dep.direct ho (by simpa using he) hbd
        rcases h1 with rfl | h1
        · exact hd
        · exact hd.trans (h _ _ h1)
      · exact h j i hb

/-- Nobody but those below looks at a slot. -/
def Apart (ops : Array Oper) (d : Nat) (oj : Oper) : Prop := d ∉ oj.looksAt ops ∧ oj.dst ≠ some d
theorem freshI_ok {ops : Array Oper} {ms : List (Nat × Nat)} (hms : ∀ j i, (lookM j ms).testBit i = true → Dep ops j i) {hard : Bool} {i d mi : Nat} (hmi : hard = true → ∀ j, mi.testBit j = true → Dep ops i j) : ∀ (l : List Oper) (j : Nat), freshI ops ms hard i d mi l j = true →
    ∀ n o, l[n]? = some o → j + n ≠ i → Dep ops (j + n) i ∨ (hard = true ∧ Dep ops i (j + n)) ∨ Apart ops d o
  | [], j, _, n, o, h, _ => by simp at h
  | a :: l, j, hf, n, o, h, hne => by
    simp only [freshI] at hf
    obtain ⟨h1, h2⟩ := condT hf
    cases n with
    | succ n =>
      have := freshI_ok hms hmi l (Nat.succ j) h2 n o (by simpa using h) (by omega)
      have e : Nat.succ j + n = j + (n + 1) := by omega
      rw [e] at this
      exact this
    | zero =>
      simp only [List.getElem?_cons_zero, Option.some.injEq] at h
      subst h
      rw [Nat.add_zero] at hne ⊢
      have hj : Nat.beq j i = false := by
        cases hq : Nat.beq j i
        · rfl
        · exact absurd (Nat.eq_of_beq_eq_true hq) hne
      rw [hj, cond_false, bitOf_eq] at h1
      cases hq : (lookM j ms).testBit i
      · rw [hq, cond_false] at h1
        cases hh : (cond hard (bitOf mi j) false)
        · rw [hh, cond_false] at h1
          refine .inr (.inr ?_)
          cases hm : memN d (looksO ops a)
          · rw [hm, cond_false, notB_eq, Bool.not_eq_true'] at h1
            refine ⟨fun hmem => ?_, fun hd => ?_⟩
            · rw [← looksO_eq] at hmem
              have := (memN_eq d _).2 hmem
              rw [hm] at this; cases this
            · rw [hd] at h1
              simp [beqO] at h1
          · rw [hm] at h1; cases h1
        · cases hard
          · cases hh
          · simp only [cond_true, bitOf_eq] at hh
            exact .inr (.inl ⟨rfl, hmi rfl _ hh⟩)
      · exact .inl (hms _ _ hq)

theorem freshI_self {ops : Array Oper} {ms : List (Nat × Nat)} {i d mi : Nat} : ∀ (l : List Oper) (j : Nat), freshI ops ms false i d mi l j = true → ∀ n o, l[n]? = some o → j + n = i → d ∉ o.looksAt ops
  | [], j, _, n, o, h, _ => by simp at h
  | a :: l, j, hf, n, o, h, he => by
    simp only [freshI] at hf
    obtain ⟨h1, h2⟩ := condT hf
    cases n with
    | succ n => exact freshI_self l (Nat.succ j) h2 n o (by simpa using h) (by omega)
    | zero =>
      simp only [List.getElem?_cons_zero, Option.some.injEq] at h
      subst h
      rw [Nat.add_zero] at he
      subst he
      rw [Nat.beq_refl, cond_true, cond_false, notB_eq, Bool.not_eq_true', looksO_eq] at h1
      intro hm
      rw [(memN_eq d _).2 hm] at h1
      cases h1
/-- What the check says of each operation of an order. -/
structure Fresh (ops : Array Oper) (i q : Nat) : Prop where
  self : q ≠ 1 → ∀ o d, ops[i]? = some o → o.dst = some d → d ∉ o.looksAt ops
  light : q ≠ 1 → ∀ o d, ops[i]? = some o → o.dst = some d → ∀ j oj, ops[j]? = some oj → j ≠ i → Dep ops j i ∨ Apart ops d oj
  hard : ∀ o d, ops[i]? = some o → o.dst = some d → ∀ j oj, ops[j]? = some oj → j ≠ i → Dep ops j i ∨ Dep ops i j ∨ Apart ops d oj
/-- What it says of what is still to come. -/
structure Step (I : FI) (ops : Array Oper) (i q : Nat) (rest : List (Nat × Nat)) (dm : Nat) (o : Oper) : Prop where
  op : ops[i]? = some o
  new : dm.testBit i = false
  topo : ∀ e ∈ o.after, Region.binds .any e = true → dm.testBit e.on = true
  sel : ∀ cs b, o.op ≠ .select cs b
  below : q ≠ 0 → ∀ j k, (j, k) ∈ rest → k = 2 ∨ Dep ops j i
  early : q ≠ 0 → q ≠ 1 → isAI I o = true
  apart2 : q ≠ 0 → q ≠ 1 → ∀ d, o.dst = some d → ∀ j, (j, 2) ∈ rest → ∃ oj, ops[j]? = some oj ∧ d ∉ oj.looksAt ops
  fresh : Fresh ops i q
theorem belowAll_ok {ops : Array Oper} {ms : List (Nat × Nat)} (hms : ∀ j i, (lookM j ms).testBit i = true → Dep ops j i) {i : Nat} : ∀ {l : List (Nat × Nat)}, belowAll ms i l = true → ∀ j k, (j, k) ∈ l → k = 2 ∨ Dep ops j i
  | [], _, j, k, h => by cases h
  | (a, b) :: l, hb, j, k, h => by
    simp only [belowAll] at hb
    obtain ⟨h1, h2⟩ := condT hb
    rcases List.mem_cons.1 h with h | h
    · injection h with e1 e2
      subst e1 e2
      cases hq : Nat.beq k 2
      · rw [hq, cond_false, bitOf_eq] at h1
        exact .inr (hms _ _ h1)
      · exact .inl (Nat.eq_of_beq_eq_true hq)
    · exact belowAll_ok hms h2 j k h
theorem noLook2_ok {ops : Array Oper} {d : Nat} : ∀ {l : List (Nat × Nat)}, noLook2 ops d l = true → ∀ j, (j, 2) ∈ l → ∃ oj, ops[j]? = some oj ∧ d ∉ oj.looksAt ops
  | [], _, j, h => by cases h
  | (a, b) :: l, hb, j, h => by
    simp only [noLook2] at hb
    obtain ⟨h1, h2⟩ := condT hb
    rcases List.mem_cons.1 h with h | h
    · injection h with e1 e2
      subst e1 e2
      rw [nthO_eq] at h1
      have hl : ops.toList[j]? = ops[j]? := Array.getElem?_toList
      rw [hl] at h1
      cases ho : ops[j]? with
      | none => rw [ho] at h1; cases h1
      | some oj =>
        rw [ho] at h1
        refine ⟨oj, rfl, fun hm => ?_⟩
        have h1 : notB (memN d (looksO ops oj)) = true := h1
        rw [looksO_eq, (memN_eq d _).2 hm] at h1
        cases h1
    · exact noLook2_ok h2 j h
theorem noSel_ok {o : Oper} (h : noSel o = true) : ∀ cs b, o.op ≠ .select cs b := by
  intro cs b e
  unfold noSel at h
  rw [e] at h
  cases h
theorem freshAll {ops : Array Oper} {ms : List (Nat × Nat)} (hms : ∀ j i, (lookM j ms).testBit i = true → Dep ops j i) {hard : Bool} {i mi : Nat} (hmi : hard = true → ∀ j, mi.testBit j = true → Dep ops i j) {o : Oper}
    (h : (match o.dst with | some d => freshI ops ms hard i d mi ops.toList 0 | none => true) = true) :
    ∀ d, o.dst = some d → ∀ j oj, ops[j]? = some oj → j ≠ i → Dep ops j i ∨ (hard = true ∧ Dep ops i j) ∨ Apart ops d oj := by
  intro d hd j oj hj hne
  rw [hd] at h
  have := freshI_ok hms hmi ops.toList 0 h j oj (by rw [Array.getElem?_toList]; exact hj) (by omega)
  rw [Nat.zero_add] at this
  exact this
theorem drwOk_step {I : FI} {ops : Array Oper} {ms : List (Nat × Nat)} (hms : ∀ j i, (lookM j ms).testBit i = true → Dep ops j i) {i q : Nat} {rest : List (Nat × Nat)} {dm : Nat} (h : drwOk I ops ms ((i, q) :: rest) dm = true) :
    ∃ o, Step I ops i q rest dm o ∧ drwOk I ops ms rest (Nat.lor dm (Nat.shiftLeft 1 i)) = true := by
  simp only [drwOk] at h
  rw [nthO_eq] at h
  have hl : ops.toList[i]? = ops[i]? := Array.getElem?_toList
  rw [hl] at h
  cases ho : ops[i]? with
  | none => rw [ho] at h; cases h
  | some o =>
    rw [ho] at h
    simp only at h
    rw [bitOf_eq] at h
    cases hn : dm.testBit i with
    | true => rw [hn] at h; cases h
    | false =>
    rw [hn, cond_false] at h
    obtain ⟨h1, h⟩ := condT h
    obtain ⟨h2, h⟩ := condT h
    obtain ⟨h3, h⟩ := condT h
    have h1 := Nat.eq_of_beq_eq_true h1
    refine ⟨o, ⟨ho, hn, fun e he hb => ?_, noSel_ok h2, fun hq => ?_, fun hq0 hq1 => ?_, fun hq0 hq1 => ?_, ?_⟩, h⟩
    · rw [← h1, testBit_or', onMask_spec (by simpa using he) hb, Bool.or_true]
    · match q, hq, h3 with
      | 0, hq, _ => exact absurd rfl hq
      | 1, _, h3 =>
        obtain ⟨_, h5⟩ := condT h3
        exact belowAll_ok hms h5
      | q + 2, _, h3 =>
        obtain ⟨_, h5⟩ := condT h3
        obtain ⟨_, h6⟩ := condT h5
        obtain ⟨_, h7⟩ := condT h6
        exact belowAll_ok hms h7
    · match q, hq0, hq1, h3 with
      | 0, hq0, _, _ => exact absurd rfl hq0
      | 1, _, hq1, _ => exact absurd rfl hq1
      | q + 2, _, _, h3 => exact (condT h3).1
    · match q, hq0, hq1, h3 with
      | 0, hq0, _, _ => exact absurd rfl hq0
      | 1, _, hq1, _ => exact absurd rfl hq1
      | q + 2, _, _, h3 =>
        obtain ⟨_, h5⟩ := condT h3
        obtain ⟨_, h6⟩ := condT h5
        obtain ⟨h7, _⟩ := condT h6
        intro d hd
        rw [hd] at h7
        exact noLook2_ok h7
    · have hmi : ∀ j, (lookM i ms).testBit j = true → Dep ops i j := fun j hb => hms _ _ hb
      match q, h3 with
      | 0, h3 =>
        have := freshAll hms (hard := false) (mi := 0) (fun e => by cases e) h3
        refine ⟨fun _ o' d ho' hd => by
          rw [ho] at ho'; cases ho'
          rw [hd] at h3
          exact freshI_self ops.toList 0 h3 i o (by rw [Array.getElem?_toList]; exact ho) (by omega), fun _ o' d ho' hd j oj hj hne => ?_, fun o' d ho' hd j oj hj hne => ?_⟩
        · rw [ho] at ho'; cases ho'
          rcases this d hd j oj hj hne with h | ⟨h, _⟩ | h
          · exact .inl h
          · cases h
          · exact .inr h
        · rw [ho] at ho'; cases ho'
          rcases this d hd j oj hj hne with h | ⟨h, _⟩ | h
          · exact .inl h
          · cases h
          · exact .inr (.inr h)
      | 1, h3 =>
        obtain ⟨h4, _⟩ := condT h3
        have := freshAll hms (hard := true) (mi := lookM i ms) (fun _ => hmi) h4
        refine ⟨fun h => absurd rfl h, fun h => absurd rfl h, fun o' d ho' hd j oj hj hne => ?_⟩
        rw [ho] at ho'; cases ho'
        rcases this d hd j oj hj hne with h | ⟨_, h⟩ | h
        · exact .inl h
        · exact .inr (.inl h)
        · exact .inr (.inr h)
      | q + 2, h3 =>
        obtain ⟨_, h5⟩ := condT h3
        obtain ⟨h6, _⟩ := condT h5
        have := freshAll hms (hard := false) (mi := 0) (fun e => by cases e) h6
        refine ⟨fun _ o' d ho' hd => by
          rw [ho] at ho'; cases ho'
          rw [hd] at h6
          exact freshI_self ops.toList 0 h6 i o (by rw [Array.getElem?_toList]; exact ho) (by omega), fun _ o' d ho' hd j oj hj hne => ?_, fun o' d ho' hd j oj hj hne => ?_⟩
        · rw [ho] at ho'; cases ho'
          rcases this d hd j oj hj hne with h | ⟨h, _⟩ | h
          · exact .inl h
          · cases h
          · exact .inr h
        · rw [ho] at ho'; cases ho'
          rcases this d hd j oj hj hne with h | ⟨h, _⟩ | h
          · exact .inl h
          · cases h
          · exact .inr (.inr h)
/-- Every operation stands in the order. -/
theorem drwOk_all {I : FI} {ops : Array Oper} {ms : List (Nat × Nat)} (hms : ∀ j i, (lookM j ms).testBit i = true → Dep ops j i) : ∀ {rest : List (Nat × Nat)} {dm : Nat}, drwOk I ops ms rest dm = true → ∀ i, i < ops.size → dm.testBit i = true ∨ ∃ q, (i, q) ∈ rest
  | [], dm, h, i, hi => by
    simp only [drwOk] at h
    have h := Nat.eq_of_beq_eq_true h
    have e1 : Nat.sub (Nat.shiftLeft 1 ops.size) 1 = 2 ^ ops.size - 1 := by
      have : Nat.sub (Nat.shiftLeft 1 ops.size) 1 = 1 <<< ops.size - 1 := rfl
      rw [this, Nat.shiftLeft_eq, Nat.one_mul]
    rw [h, e1, Nat.testBit_two_pow_sub_one]
    exact .inl (by simpa using hi)
  | (a, q) :: rest, dm, h, i, hi => by
    obtain ⟨o, _, h2⟩ := drwOk_step hms h
    rcases drwOk_all hms h2 i hi with h3 | ⟨q', h3⟩
    · rw [testBit_or', testBit_one_shl, Bool.or_eq_true, decide_eq_true_eq] at h3
      rcases h3 with h3 | rfl
      · exact .inl h3
      · exact .inr ⟨q, List.mem_cons_self⟩
    · exact .inr ⟨q', List.mem_cons_of_mem _ h3⟩
end Go.Proofs.YtaekfgbfpfecdaaGreat.VM

/- What a light operation gives hangs on its operands, and, for some, on memory; no conditions but those that each theorem names. -/
namespace Go.Proofs.YtaekfgbfpfecdaaGreat.VM
open Go
variable [Df]
set_option linter.unusedSectionVars false
set_option linter.unusedVariables false
set_option linter.unusedSimpArgs false

theorem evO_congr {env env' : Env} {x : Operand} (h : rawO env x = rawO env' x) : evO env x = evO env' x := by
  unfold evO; rw [h]
theorem optN_congr {env env' : Env} : ∀ {x : Option Operand}, (∀ y, x = some y → rawO env y = rawO env' y) → optN env x = optN env' x
  | none, _ => rfl
  | some y, h => by simp only [optN, evO_congr (h y rfl)]
theorem partsN_congr {env env' : Env} {pl : Nat → Option (Nat × Nat × Bool)} {l : List K} : ∀ {ps : List (Nat × Operand)} {hi acc : Nat}, (∀ p ∈ ps, rawO env p.2 = rawO env' p.2) → partsN pl l env ps hi acc = partsN pl l env' ps hi acc
  | [], _, _, _ => rfl
  | (i, x) :: r, hi, acc, h => by
    have h1 : rawO env x = rawO env' x := h (i, x) (by simp)
    have ih : ∀ hi acc, partsN pl l env r hi acc = partsN pl l env' r hi acc := fun hi acc => partsN_congr fun p hp => h p (by simp [hp])
    simp only [partsN, evO_congr h1, ih]
theorem fnN_congr {env env' : Env} : ∀ {xs : List Operand} {i acc : Nat}, (∀ x ∈ xs, rawO env x = rawO env' x) → fnN env xs i acc = fnN env' xs i acc
  | [], _, _, _ => rfl
  | x :: r, i, acc, h => by
    have h1 : rawO env x = rawO env' x := h x (by simp)
    have ih : ∀ i acc, fnN env r i acc = fnN env' r i acc := fun i acc => fnN_congr fun p hp => h p (by simp [hp])
    simp only [fnN, evO_congr h1, ih]
theorem fnChk_congr {env env' : Env} : ∀ {xs : List Operand} {ls : List (List K)}, (∀ x ∈ xs, rawO env x = rawO env' x) → fnChk env xs ls = fnChk env' xs ls
  | [], [], _ => rfl
  | [], _ :: _, _ => rfl
  | _ :: _, [], _ => rfl
  | x :: r, l :: ls, h => by
    have h1 : rawO env x = rawO env' x := h x (by simp)
    have ih : fnChk env r ls = fnChk env' r ls := fnChk_congr fun p hp => h p (by simp [hp])
    simp only [fnChk, evO_congr h1, ih]
theorem foldMM_congr {env env' : Env} {mx : Bool} {k : IntKind} : ∀ {xs : List Operand} {acc : Nat}, (∀ x ∈ xs, rawO env x = rawO env' x) → foldMM mx k env xs acc = foldMM mx k env' xs acc
  | [], _, _ => rfl
  | x :: r, acc, h => by
    have h1 : rawO env x = rawO env' x := h x (by simp)
    have ih : ∀ acc, foldMM mx k env r acc = foldMM mx k env' r acc := fun acc => foldMM_congr fun p hp => h p (by simp [hp])
    simp only [foldMM, evO_congr h1, ih]
theorem semMM_congr {env env' : Env} {mx : Bool} : ∀ {xs : List Operand}, (∀ x ∈ xs, rawO env x = rawO env' x) → semMM mx env xs = semMM mx env' xs
  | [], _ => rfl
  | x :: r, h => by
    have h1 : rawO env x = rawO env' x := h x (by simp)
    have ih : ∀ k acc, foldMM mx k env r acc = foldMM mx k env' r acc := fun k acc => foldMM_congr fun p hp => h p (by simp [hp])
    simp only [semMM, evO_congr h1, ih]
theorem semBuiltin_congr {env env' : Env} {b : Builtin} {tys : List Nat} {args : List Operand} (h : ∀ x ∈ args, rawO env x = rawO env' x) : semBuiltin b tys args env = semBuiltin b tys args env' := by
  unfold semBuiltin
  split
  · split
    · next t x => rw [evO_congr (h x (by simp))]
    · rfl
  · exact semMM_congr h
  · exact semMM_congr h
  · split
    · next x => rw [evO_congr (h x (by simp))]
    · rfl
  · split
    · next x => rw [evO_congr (h x (by simp))]
    · rfl
  · split
    · next x y => rw [evO_congr (h x (by simp)), evO_congr (h y (by simp))]
    · rfl
  · rfl
theorem sem_congr {o : Oper} {env env' : Env} {lo : Lo} {c : Core} (h : ∀ x ∈ o.op.operands, rawO env x = rawO env' x) : sem o env lo c = sem o env' lo c := by
  obtain ⟨dst, op, type, pos, after, guard⟩ := o
  cases op <;> simp only [Op.operands] at h <;> simp only [sem]
  case move x => rw [evO_congr (h x (by simp))]
  case assign x => rw [evO_congr (h x (by simp))]
  case pick x a b => rw [evO_congr (h x (by simp)), h a (by simp), h b (by simp)]
  case load t x => rw [evO_congr (h x (by simp))]
  case nilCheck x => rw [evO_congr (h x (by simp))]
  case binOp op t x y t' => rw [evO_congr (h x (by simp)), evO_congr (h y (by simp))]
  case unOp op t x => rw [evO_congr (h x (by simp))]
  case convert t d x => rw [evO_congr (h x (by simp))]
  case fieldAddr t x f => rw [evO_congr (h x (by simp))]
  case field t x f => rw [evO_congr (h x (by simp))]
  case indexAddr t x i => rw [evO_congr (h x (by simp)), evO_congr (h i (by simp))]
  case index t x i => rw [evO_congr (h x (by simp)), evO_congr (h i (by simp))]
  case slice t x lo' hi mx =>
    rw [evO_congr (h x (by simp)), optN_congr (x := lo') (fun y hy => h y (by subst hy; simp)), optN_congr (x := hi) (fun y hy => h y (by subst hy; simp)), optN_congr (x := mx) (fun y hy => h y (by subst hy; simp))]
  case extract x i => rw [evO_congr (h x (by simp))]
  case build t ps =>
    have hp : ∀ p ∈ ps.toList, rawO env p.2 = rawO env' p.2 := fun p hp => h p.2 (by
      have : p.2 ∈ ps.toList.map (·.2) := List.mem_map.2 ⟨p, hp, rfl⟩
      simpa using this)
    have key : ∀ pl l hi acc, partsN pl l env ps.toList hi acc = partsN pl l env' ps.toList hi acc := fun _ _ _ _ => partsN_congr hp
    simp only [semBuild, key]
  case makeFunc fn f cs =>
    have hc : ∀ x ∈ cs.toList, rawO env x = rawO env' x := fun x hx => h x (by
      have : x ∈ cs := by simpa using hx
      simp [this])
    have k1 : ∀ i acc, fnN env cs.toList i acc = fnN env' cs.toList i acc := fun _ _ => fnN_congr hc
    have k2 : ∀ ls, fnChk env cs.toList ls = fnChk env' cs.toList ls := fun _ => fnChk_congr hc
    simp only [semFunc, k1, k2]
  case call cl =>
    split
    · next b hb =>
      refine semBuiltin_congr fun x hx => h x ?_
      simp only [Call.operands, hb]
      have : x ∈ cl.args := by simpa using hx
      simp [this]
    · rfl

/-- What does not look at memory. -/
theorem semBin_c {op : BinOp} {t : Nat} {a b : Ent} {c c' : Core} (h : ∀ f x f' y, ¬ (a = .n (.one .str) f x ∧ b = .n (.one .str) f' y)) : semBin op t a b c = semBin op t a b c' := by
  unfold semBin
  split <;> first | rfl | skip
  next f x f' y => exact absurd ⟨rfl, rfl⟩ (h _ _ _ _)
theorem semBin_add {op : BinOp} {t : Nat} {a b : Ent} {c c' : Core} (h : op = .add ∨ ∀ f x f' y, ¬ (a = .n (.one .str) f x ∧ b = .n (.one .str) f' y)) : semBin op t a b c = semBin op t a b c' := by
  by_cases hab : ∃ f x f' y, a = .n (.one .str) f x ∧ b = .n (.one .str) f' y
  · obtain ⟨f, x, f', y, rfl, rfl⟩ := hab
    rcases h with rfl | h
    · rfl
    · exact absurd ⟨rfl, rfl⟩ (h _ _ _ _)
  · exact semBin_c fun f x f' y h => hab ⟨f, x, f', y, h⟩
theorem str_pair {op : BinOp} {A B : Option Ent} (h : (match op with
    | .add => false
    | _ => match A, B with
      | some (.n (.one .str) _ _), some (.n (.one .str) _ _) => true
      | _, _ => false) = false) {a b : Ent} (ha : A = some a) (hb : B = some b) : op = .add ∨ ∀ f x f' y, ¬ (a = .n (.one .str) f x ∧ b = .n (.one .str) f' y) := by
  by_cases hop : op = .add
  · exact .inl hop
  · refine .inr fun f x f' y hab => ?_
    rw [ha, hb, hab.1, hab.2] at h
    cases op <;> first | exact absurd rfl hop | cases h
theorem sem_state {o : Oper} {env : Env} {lo lo' : Lo} {c c' : Core} (h : stateO o env = false) : sem o env lo c = sem o env lo' c' := by
  obtain ⟨dst, op, type, pos, after, guard⟩ := o
  cases op <;> simp only [stateO] at h <;> first | (cases h; done) | skip
  case binOp op t x y t' =>
    simp only [sem]
    cases hx : evO env x with
    | none => rfl
    | some a =>
      cases hy : evO env y with
      | none => rfl
      | some b => exact semBin_add (str_pair h hx hy)
  all_goals rfl
/-- What does not look at strings. -/
theorem sem_str {o : Oper} {env : Env} {lo : Lo} {c c' : Core} (h : strO o env = false) (hm : c.m = c'.m) (hd : c.d = c'.d) : sem o env lo c = sem o env lo c' := by
  obtain ⟨dst, op, type, pos, after, guard⟩ := o
  cases op <;> simp only [strO] at h <;> first | (cases h; done) | skip
  case binOp op t x y t' =>
    simp only [sem]
    cases hx : evO env x with
    | none => rfl
    | some a =>
      cases hy : evO env y with
      | none => rfl
      | some b => exact semBin_add (str_pair h hx hy)
  case load t x =>
    simp only [sem]
    cases evO env x with
    | none => rfl
    | some e => simp only [semLoad, hm, hd]
  all_goals rfl

theorem getA_raw {env env' : Env} {x : Operand} (h : ∀ t, x = .tmp t → getA env t = getA env' t) : rawO env x = rawO env' x := by
  cases x with
  | tmp t => exact h t rfl
  | const v => rfl
  | func f => rfl
  | global g => rfl
theorem looks_tmp {ops : Array Oper} {o : Oper} {t : Nat} (h : Operand.tmp t ∈ o.op.operands) : t ∈ o.looksAt ops :=
  List.mem_append_left _ (List.mem_filterMap.2 ⟨.tmp t, by simpa using h, rfl⟩)
theorem looks_guard {ops : Array Oper} {o og : Oper} {g d : Nat} {w : Bool} (h : o.guard = some (g, w)) (hg : ops[g]? = some og) (hd : og.dst = some d) : d ∈ o.looksAt ops := by
  refine List.mem_append_right _ ?_
  rw [h]
  simp [hg, hd]
theorem unlock_get {s : Nat} {w : Bool} {env env' : Env} {t : Nat} (h : getA env t = getA env' t) : getA (unlock s w env) t = getA (unlock s w env') t := by
  rw [getA_unlock, getA_unlock, h]
theorem genv_get {gd : Gd} {env env' : Env} {t : Nat} (h : getA env t = getA env' t) : getA (genv gd env) t = getA (genv gd env') t := by
  cases gd with
  | none => exact h
  | some swg => obtain ⟨s, w, g⟩ := swg; exact unlock_get h
theorem guardOf_congr {ops : Array Oper} {o : Oper} {env env' : Env} (h : ∀ t ∈ o.looksAt ops, getA env t = getA env' t) : guardOf ops.toList env o = guardOf ops.toList env' o := by
  unfold guardOf
  cases hg : o.guard with
  | none => rfl
  | some gw =>
    obtain ⟨g, w⟩ := gw
    simp only [nthO_eq]
    have hl : ops.toList[g]? = ops[g]? := Array.getElem?_toList
    rw [hl]
    cases ho : ops[g]? with
    | none => rfl
    | some og =>
      simp only
      cases hd : og.dst with
      | none => rfl
      | some d =>
        simp only
        rw [h d (looks_guard hg ho hd)]
theorem sem_looks {ops : Array Oper} {o : Oper} {gd : Gd} {env env' : Env} {lo : Lo} {c : Core} (h : ∀ t ∈ o.looksAt ops, getA env t = getA env' t) : sem o (genv gd env) lo c = sem o (genv gd env') lo c :=
  sem_congr fun x hx => getA_raw fun t ht => by subst ht; exact genv_get (h t (looks_tmp hx))
end Go.Proofs.YtaekfgbfpfecdaaGreat.VM

/- Light operations that may come late; no conditions but those that each theorem names. -/
namespace Go.Proofs.YtaekfgbfpfecdaaGreat.VM
open Go
set_option linter.unusedVariables false
set_option linter.unusedSimpArgs false
variable {P : Program} [Df]
set_option linter.unusedSectionVars false

theorem denOp_light {I : FI} {o : Oper} {gd : Gd} {env : Env} {lo : Lo} {c : Core} (h : lightO o gd env = true) (hc : catO o gd env = false) (k : Env → Lo → Core → Bool) : denOp I o gd env lo c k = (match sem o (genv gd env) lo c with
    | some (chk, e) => chkK (gchk gd chk) (setK I.nt I.forced o.dst gd e env (fun env => k env lo c))
    | none => false) := by
  unfold lightO at h
  unfold denOp
  split
  · next cl hop =>
    rw [hop] at h
    simp only at h
    split
    · next f hcl => rw [hcl] at h; cases h
    · next b hcl =>
      rw [hcl] at h
      simp only at h
      split <;> first | (cases h; done) | rfl
    · next r m hcl => rw [hcl] at h; cases h
  · next t p v hop => rw [hop] at h; cases h
  · next t hop => rw [hop] at h; cases h
  · next t v hop => rw [hop] at h; cases h
  · next t len ps hop => rw [hop] at h; cases h
  · next t t' x hop =>
    rw [hop] at h
    simp only at h
    split
    · next l f q hx => simp only [hx] at h; cases h
    · rfl
  · next t x hop => rw [hop] at h; cases h
  · next x hop => rw [hop] at h; cases h
  · next t x y t' hop =>
    unfold catO at hc
    rw [hop] at hc
    simp only at hc
    split
    · next f1 a f2 b hx hy => simp only [hx, hy] at hc; cases hc
    · rfl
  · rfl

/-- What is known of a light operation that the machine has done. -/
structure Late (ops : Array Oper) (o : Oper) (env : Env) (lo : Lo) (c : Core) (gd : Gd) (chk : Option Bool) (e : Ent) : Prop where
  grd : guardOf ops.toList env o = some gd
  sm : sem o (genv gd env) lo c = some (chk, e)
  ck : ∀ b, gchk gd chk = some b → b = true
  ent : ∀ d, o.dst = some d → ∃ e', getA env d = some (gent gd e') ∧ ((∀ s w gb, gd = some (s, w, gb) → gb = true) → ∀ N lam v, REnt N lam e v → REnt N lam e' v)
/-- What is known of strings that the machine has joined. -/
structure LateCat (N : Nm) (o : Oper) (env : Env) : Prop where
  ex : ∃ t X Y t' f1 x f2 y l m, o.guard = none ∧ o.op = .binOp .add t X Y t' ∧ evO env X = some (.n (.one .str) f1 x) ∧ evO env Y = some (.n (.one .str) f2 y) ∧ StrAt N x l ∧ StrAt N y m ∧
    ∀ d, o.dst = some d → ∃ fl z, getA env d = some (.n (.one .str) fl z) ∧ z < 2 ^ 64 ∧ StrAt N z (l ++ m)
def LateOK (N : Nm) (ops : Array Oper) (o : Oper) (env : Env) (lo : Lo) (c : Core) : Prop := (∃ gd chk e, Late ops o env lo c gd chk e) ∨ LateCat N o env
theorem StrAt.unique {N : Nm} {x : Nat} {l l' : List UInt8} (h : StrAt N x l) (h' : StrAt N x l') : l = l' := by
  apply List.ext_getElem?
  intro i
  rcases Nat.lt_or_ge i l.length with hi | hi
  · have hi' : i < l'.length := by rw [h'.1, ← h.1]; exact hi
    have h1 := h.2.1 i hi
    have h2 := h'.2.1 i hi'
    rw [h1] at h2
    rw [List.getElem?_eq_getElem hi, List.getElem?_eq_getElem hi']
    exact h2
  · rw [List.getElem?_eq_none hi, List.getElem?_eq_none (by rw [h'.1, ← h.1]; exact hi)]
theorem cat_exec {o : Oper} {t t' : TypeId} {X Y : Operand} (hop : o.op = .binOp .add t X Y t') {a : Act} {w : World} {l m : List UInt8} (hvx : a.eval X = .string ⟨l.toArray⟩) (hvy : a.eval Y = .string ⟨m.toArray⟩) (hl : l.length < 65536) (hm : m.length < 65536) :
    (execOp a.eval o).run P w = .ok (.value (.string ⟨(l ++ m).toArray⟩)) w := by
  have sa : (⟨l.toArray⟩ : ByteArray).size = l.length := rfl
  have sb : (⟨m.toArray⟩ : ByteArray).size = m.length := rfl
  have e : (⟨l.toArray⟩ : ByteArray) ++ (⟨m.toArray⟩ : ByteArray) = ⟨(l ++ m).toArray⟩ := ByteArray.ext (by simp)
  have h' : ¬ (9223372036854775807 < (l.length : Int) + (m.length : Int)) := by omega
  have hguard : (eqGuard .add t X Y (.string ⟨l.toArray⟩) (.string ⟨m.toArray⟩)).run P w = .ok () w := guard_ok (by simp) (by simp)
  have hbin : (binOp .add t (.string ⟨l.toArray⟩) (.string ⟨m.toArray⟩)).run P w = .ok (.string ⟨(l ++ m).toArray⟩) w := by
    simp [binOp, Op.stringOp, sa, sb, h', e]
  simp only [execOp, hop, hvx, hvy]
  exact run_v (α := Nat) (runGuard hguard hbin)
theorem StrAt.short {N : Nm} {x : Nat} {l : List UInt8} (h : StrAt N x l) : l.length < 65536 := by
  have := h.1
  omega
/-- What a string's entry says of a value. -/
theorem str_val {nt : Nat} {G : Nat → Prop} {N : Nm} {lam : Nat → Nat} {env : Env} {lo : Lo} {c : Core} {a : Act} {w : World} (hok : OK nt G N lam env lo c a w) {X : Operand} {f : Bool} {x : Nat} (h : evO env X = some (.n (.one .str) f x)) : ∃ l, StrAt N x l ∧ a.eval X = .string ⟨l.toArray⟩ := by
  have hv := evO_ok hok.pools hok.re h
  simp only [REnt, RSh, RK] at hv
  obtain ⟨_, l, hl, hv⟩ := hv
  exact ⟨l, hl, hv⟩

theorem OK.reput {nt : Nat} {G : Nat → Prop} {N : Nm} {lam : Nat → Nat} {env : Env} {lo : Lo} {c : Core} {a : Act} {w : World} (h : OK nt G N lam env lo c a w) {dst : Option Nat} {v : Value} (hv : ∀ d, dst = some d → ∃ x, getA env d = some x ∧ REnt N lam x v) :
    OK nt G N lam env lo c (a.put dst v) w := by
  cases dst with
  | none => exact h
  | some d =>
    obtain ⟨x, hx, hxv⟩ := hv d rfl
    refine ⟨⟨fun i y hy => ?_, h.re.grd, h.re.blk, h.re.itr, h.re.off, h.re.inj⟩, h.rel, h.pools, h.off, h.ing, h.prot, by simp [Act.put, h.nt], h.df⟩
    rw [put_get]
    split
    · next hq =>
      obtain ⟨rfl, _⟩ := hq
      rw [hx] at hy
      cases hy
      exact ⟨v, rfl, hxv⟩
    · exact h.re.slot i y hy

/-- A light operation is run where it may come late. -/
theorem late_run (hF : Facts P) {ops : Array Oper} {o : Oper} {nt : Nat} {G : Nat → Prop} {N : Nm} {lam : Nat → Nat} {env : Env} {lo : Lo} {c : Core} {a : Act} {w : World} (hok : OK nt G N lam env lo c a w) (hl : LateOK N ops o env lo c) :
    (Region.wanted o (yielded ops a.tmps) = true ∧ ∃ v, (execOp a.eval o).run P w = .ok (.value v) w ∧ OK nt G N lam env lo c (a.put o.dst v) w) ∨
    (Region.wanted o (yielded ops a.tmps) = false ∧ OK nt G N lam env lo c (a.put o.dst undef) w) := by
  rcases hl with ⟨gd, chk, e, hl⟩ | ⟨t, X, Y, t', f1, x, f2, y, l, m, hg, hop, hx, hy, hsl, hsm, hd⟩
  case inr =>
    refine .inl ⟨by simp [Region.wanted, hg], ?_⟩
    obtain ⟨l', h1, h2⟩ := str_val hok hx
    obtain ⟨m', h3, h4⟩ := str_val hok hy
    rw [hsl.unique h1, hsm.unique h3] at hd
    refine ⟨_, cat_exec hop h2 h4 h1.short h3.short, hok.reput fun d hdd => ?_⟩
    obtain ⟨fl, z, h5, h6, h7⟩ := hd d hdd
    refine ⟨_, h5, ?_⟩
    simp only [REnt, RSh, RK]
    exact ⟨h6, _, h7, rfl⟩
  obtain ⟨hw, hg⟩ := guard_wanted hok.re hl.grd
  have main : (∀ s w gb, gd = some (s, w, gb) → gb = true) → ∃ v, (execOp a.eval o).run P w = .ok (.value v) w ∧ OK nt G N lam env lo c (a.put o.dst v) w := by
    intro ht
    have hc' : ∀ b, chk = some b → b = true := by
      intro b hb
      subst hb
      cases gd with
      | none => exact hl.ck _ rfl
      | some swg =>
        obtain ⟨s, w', gb⟩ := swg
        have h1 := hl.ck _ rfl
        have h2 := ht _ _ _ rfl
        subst h2
        exact h1
    obtain ⟨v, hr, hv⟩ := sem_ok hF hok.pools hok.rel (hok.genv hg ht) hl.sm hc'
    refine ⟨v, hr, hok.reput fun d hd => ?_⟩
    obtain ⟨e', h1, h2⟩ := hl.ent d hd
    refine ⟨_, h1, ?_⟩
    cases gd with
    | none => exact h2 ht _ _ _ hv
    | some swg =>
      obtain ⟨s, w', gb⟩ := swg
      have := ht _ _ _ rfl
      subst this
      simp only [gent, REnt]
      exact ⟨fun _ => h2 ht _ _ _ hv, fun h => (by cases h)⟩
  cases gd with
  | none => exact .inl ⟨hw, main fun s w gb h => by cases h⟩
  | some swg =>
    obtain ⟨s, w', gb⟩ := swg
    cases gb with
    | true => exact .inl ⟨hw, main fun s w gb h => by cases h; rfl⟩
    | false =>
      refine .inr ⟨hw, hok.reput fun d hd => ?_⟩
      obtain ⟨e', h1, h2⟩ := hl.ent d hd
      refine ⟨_, h1, ?_⟩
      simp only [gent, REnt]
      exact ⟨fun h => (by cases h), fun _ => (by first | trivial | rfl)⟩

theorem setK_n (nt : Nat) (forced : List Nat) (dst : Option Nat) (sh : Sh) (fl : Bool) (x : Nat) (env : Env) : (∀ k, setK nt forced dst none (.n sh fl x) env k = false) ∨ (dst = none ∧ ∀ k, setK nt forced dst none (.n sh fl x) env k = k env) ∨
    ∃ d fl', dst = some d ∧ ∀ k, setK nt forced dst none (.n sh fl x) env k = k ((d, some (.n sh fl' x)) :: env) := by
  cases dst with
  | none => exact .inr (.inl ⟨rfl, fun k => rfl⟩)
  | some d =>
    simp only [setK]
    cases (noG d env && Nat.blt d nt && notSlot none d && notGE (.n sh fl x)) with
    | false => exact .inl fun k => rfl
    | true =>
      cases memN d forced with
      | false => exact .inr (.inr ⟨d, fl, rfl, fun k => rfl⟩)
      | true =>
        cases fl with
        | false => exact .inr (.inr ⟨d, true, rfl, fun k => rfl⟩)
        | true => exact .inr (.inr ⟨d, true, rfl, fun k => rfl⟩)
/-- The machine goes on alone over a light operation. -/
theorem light_alone (hF : Facts P) {ops : Array Oper} {I : FI} {o : Oper} {env : Env} {lo : Lo} {c : Core} {gd : Gd} (hgd : guardOf ops.toList env o = some gd) (hlt : lightO o gd env = true)
    (hself : ∀ d, o.dst = some d → d ∉ o.looksAt ops) :
    (∀ k, denOp I o gd env lo c k = false) ∨ ∃ env' c', (∀ k, denOp I o gd env lo c k = k env' lo c') ∧ (∀ t, o.dst ≠ some t → getA env' t = getA env t) ∧ (c'.m = c.m ∧ c'.d = c.d) ∧ (catO o gd env = false → c' = c) ∧
      ∀ G N lam a w, OK I.nt G N lam env lo c a w → ∃ v N', Ext N N' ∧ OK I.nt G N' lam env' lo c' (a.put o.dst v) w ∧ LateOK N' ops o env' lo c' := by
  cases hcat : catO o gd env with
  | false =>
    have hd0 := fun k => denOp_light (I := I) (lo := lo) (c := c) hlt hcat k
    cases hs : sem o (genv gd env) lo c with
    | none => exact .inl fun k => by rw [hd0, hs]
    | some ce =>
    obtain ⟨chk, e⟩ := ce
    rcases chk_cases (gchk gd chk) with hc | hc
    · rcases setK_def I.nt I.forced o.dst gd e env with hd | ⟨env', hd, hset⟩
      · refine .inl fun k => ?_
        rw [hd0, hs]
        exact (chkK_true hc).trans (hd _)
      · have hother : ∀ t, o.dst ≠ some t → getA env' t = getA env t := by
          intro t ht
          cases hdst : o.dst with
          | none => rw [hset.none_ hdst]
          | some d =>
            obtain ⟨_, _, _, e', rfl, _, _⟩ := hset.some_ d hdst
            rw [getA_cons, if_neg]
            intro hdt
            exact ht (by rw [hdst, hdt])
        have hlook : ∀ t ∈ o.looksAt ops, getA env' t = getA env t := fun t ht => hother t fun hd => hself t hd ht
        have hlate : ∀ N, LateOK N ops o env' lo c := fun N => .inl ⟨gd, chk, e, by rw [guardOf_congr (env' := env) hlook, hgd], by rw [sem_looks hlook, hs], hc, fun d hdst => by
          obtain ⟨_, _, _, e', rfl, h4, _⟩ := hset.some_ d hdst
          exact ⟨e', by rw [getA_cons, if_pos rfl], fun _ => h4⟩⟩
        refine .inr ⟨env', c, fun k => by rw [hd0, hs]; exact (chkK_true hc).trans (hd _), hother, ⟨rfl, rfl⟩, fun _ => rfl, ?_⟩
        intro G N lam a w hok
        obtain ⟨hw, hg⟩ := guard_wanted hok.re hgd
        have main : (∀ s w gb, gd = some (s, w, gb) → gb = true) → ∃ v, OK I.nt G N lam env' lo c (a.put o.dst v) w := by
          intro ht
          have hc' : ∀ b, chk = some b → b = true := by
            intro b hb
            subst hb
            cases gd with
            | none => exact hc _ rfl
            | some swg =>
              obtain ⟨s, w', gb⟩ := swg
              have h1 := hc _ rfl
              have h2 := ht _ _ _ rfl
              subst h2
              exact h1
          obtain ⟨v, hr, hv⟩ := sem_ok hF hok.pools hok.rel (hok.genv hg ht) hs hc'
          exact ⟨v, hok.set hset (fun _ => hv) hg (fun s w h => by have := ht _ _ _ h; cases this)⟩
        have : ∃ v, OK I.nt G N lam env' lo c (a.put o.dst v) w := by
          cases gd with
          | none => exact main fun s w gb h => by cases h
          | some swg =>
            obtain ⟨s, w', gb⟩ := swg
            cases gb with
            | true => exact main fun s w gb h => by cases h; rfl
            | false => exact ⟨undef, hok.set hset (fun h => by have := h _ _ _ rfl; cases this) hg (fun _ _ _ => rfl)⟩
        obtain ⟨v, hv⟩ := this
        exact ⟨v, N, Ext.refl N, hv, hlate N⟩
    · refine .inl fun k => ?_
      rw [hd0, hs]
      exact chkK_false hc
  | true =>
    obtain ⟨t, X, Y, t', f1, x, f2, y, hop, rfl, hx, hy⟩ : ∃ t X Y t' f1 x f2 y, o.op = .binOp .add t X Y t' ∧ gd = none ∧ evO env X = some (.n (.one .str) f1 x) ∧ evO env Y = some (.n (.one .str) f2 y) := by
      unfold catO at hcat
      split at hcat
      · next t X Y t' hop =>
        split at hcat
        · next f1 x f2 y hx hy => exact ⟨t, X, Y, t', f1, x, f2, y, hop, rfl, hx, hy⟩
        · cases hcat
      · cases hcat
    have hg := guard_none hgd
    have hd0 : ∀ k, denOp I o none env lo c k = denCat I o.dst x y env lo c k := fun k => by
      unfold denOp
      rw [hop]
      simp only [hx, hy]
    simp only [denCat, force_eq, lg_eq] at hd0
    have en : Nat.add (strLen x) (strLen y) = x % 65536 + y % 65536 := by rw [strLen_eq, strLen_eq]; rfl
    rw [en] at hd0
    cases hb : (cond (Nat.blt (x % 65536 + y % 65536) 65536) (Nat.blt (sTop c.s) 8796093022208) false) with
    | false => exact .inl fun k => by rw [hd0, hb]; rfl
    | true =>
      obtain ⟨b1, b2⟩ := condT hb
      rw [blt_eq, decide_eq_true_eq] at b1 b2
      rw [hb] at hd0
      simp only [cond_true] at hd0
      have e1 : (sTop c.s * 65536 + (x % 65536 + y % 65536)) % 65536 = x % 65536 + y % 65536 := by omega
      have e2 : (sTop c.s * 65536 + (x % 65536 + y % 65536)) / 65536 = sTop c.s := by omega
      rcases setK_def I.nt I.forced o.dst none (.n (.one .str) false (Nat.add (Nat.shiftLeft (sTop c.s) 16) (x % 65536 + y % 65536))) env with hd | ⟨env', hd, hset⟩
      · exact .inl fun k => (hd0 k).trans (hd _)
      · have hother : ∀ t, o.dst ≠ some t → getA env' t = getA env t := by
          intro t ht
          cases hdst : o.dst with
          | none => rw [hset.none_ hdst]
          | some d =>
            obtain ⟨_, _, _, e', rfl, _, _⟩ := hset.some_ d hdst
            rw [getA_cons, if_neg]
            intro hdt
            exact ht (by rw [hdst, hdt])
        have hdst : ∀ d, o.dst = some d → ∃ fl, getA env' d = some (.n (.one .str) fl (sTop c.s * 65536 + (x % 65536 + y % 65536))) := by
          intro d hdd
          rw [← cut16]
          rcases setK_n I.nt I.forced o.dst (.one .str) false (Nat.add (Nat.shiftLeft (sTop c.s) 16) (x % 65536 + y % 65536)) env with h | ⟨h, _⟩ | ⟨d', fl', h1, h2⟩
          · have h1 := hd fun _ => true
            rw [h] at h1
            cases h1
          · rw [hdd] at h; cases h
          · rw [hdd] at h1
            cases h1
            have := hd fun z => @decide (z = (d, some (.n (.one .str) fl' (Nat.add (Nat.shiftLeft (sTop c.s) 16) (x % 65536 + y % 65536)))) :: env) (Classical.propDecidable _)
            rw [h2] at this
            have h3 := @of_decide_eq_true _ (Classical.propDecidable _) (this.symm.trans (@decide_eq_true _ (Classical.propDecidable _) rfl))
            rw [h3]
            exact ⟨fl', by rw [getA_cons, if_pos rfl]⟩
        have hlook : ∀ t ∈ o.looksAt ops, getA env' t = getA env t := fun t ht => hother t fun hd => hself t hd ht
        have hopnd : ∀ Z, Z ∈ o.op.operands → evO env' Z = evO env Z := fun Z hZ => evO_congr (getA_raw fun t ht => by subst ht; exact hlook t (looks_tmp hZ))
        refine .inr ⟨env', ⟨c.m, c.t, catS c.s x y, c.d⟩, fun k => (hd0 k).trans (hd _), hother, ⟨rfl, rfl⟩, fun h => (by cases h), ?_⟩
        intro G N lam a w hok
        obtain ⟨l, hl, hvx⟩ := str_val hok hx
        obtain ⟨m, hm, hvy⟩ := str_val hok hy
        have el := hok.rel.bytes hl
        have em := hok.rel.bytes hm
        obtain ⟨hrel, hext, hst⟩ := hok.rel.adds (x := x) (y := y) b1 b2
        rw [← el, ← em] at hrel hext hst
        have hl1 := hl.1
        have hm1 := hm.1
        have hok' : OK I.nt G (N.adds (sTop c.s) (l ++ m)) lam env lo ⟨c.m, c.t, catS c.s x y, c.d⟩ a w :=
          ⟨hok.re.mono hext (fun _ _ _ => rfl) (fun i e hi b g o k mo sp hb => hok.re.off i e hi b g o k mo sp hb), hrel, hok.pools.mono hext, fun g b o k mo sp hg hb => hok.off g b o k mo sp hg hb, hok.ing, hok.prot, hok.nt, hok.df⟩
        have hz : StrAt (N.adds (sTop c.s) (l ++ m)) (sTop c.s * 65536 + (x % 65536 + y % 65536)) (l ++ m) := by
          refine ⟨by rw [e1, List.length_append, hl1, hm1], fun j hj => ?_, by rw [e1, e2]; omega⟩
          rw [e2]
          exact hst j hj
        refine ⟨.string ⟨(l ++ m).toArray⟩, _, hext, hok'.set hset (fun _ => ?_) (fun s w g h => by cases h) (fun s w h => by cases h), .inr ⟨t, X, Y, t', f1, x, f2, y, l, m, hg, hop, ?_, ?_, hl.mono hext, hm.mono hext, fun d hdd => ?_⟩⟩
        · simp only [REnt, RSh, RK]
          rw [cut16]
          exact ⟨by omega, l ++ m, hz, rfl⟩
        · rw [hopnd X (by rw [hop]; simp [Op.operands])]; exact hx
        · rw [hopnd Y (by rw [hop]; simp [Op.operands])]; exact hy
        · obtain ⟨fl, h1⟩ := hdst d hdd
          exact ⟨fl, _, h1, by omega, hz⟩

theorem LateCat.step {N N' : Nm} (hN : Ext N N') {ops : Array Oper} {o : Oper} {env env' : Env} (h : LateCat N o env) (h1 : ∀ t ∈ o.looksAt ops, getA env' t = getA env t) (h2 : ∀ d, o.dst = some d → getA env' d = getA env d) : LateCat N' o env' := by
  obtain ⟨t, X, Y, t', f1, x, f2, y, l, m, hg, hop, hx, hy, hsl, hsm, hd⟩ := h
  have hopnd : ∀ Z, Z ∈ o.op.operands → evO env' Z = evO env Z := fun Z hZ => evO_congr (getA_raw fun t ht => by subst ht; exact h1 t (looks_tmp hZ))
  refine ⟨t, X, Y, t', f1, x, f2, y, l, m, hg, hop, ?_, ?_, hsl.mono hN, hsm.mono hN, fun d hdd => ?_⟩
  · rw [hopnd X (by rw [hop]; simp [Op.operands])]; exact hx
  · rw [hopnd Y (by rw [hop]; simp [Op.operands])]; exact hy
  · obtain ⟨fl, z, h3, h4, h5⟩ := hd d hdd
    exact ⟨fl, z, by rw [h2 d hdd]; exact h3, h4, h5.mono hN⟩
/-- More slots, more strings: what may come late may still come. -/
theorem LateOK.step {N N' : Nm} (hN : Ext N N') {ops : Array Oper} {o : Oper} {env env' : Env} {lo : Lo} {c c' : Core} (h : LateOK N ops o env lo c) (h1 : ∀ t ∈ o.looksAt ops, getA env' t = getA env t) (h2 : ∀ d, o.dst = some d → getA env' d = getA env d)
    (hc : c' = c ∨ (c'.m = c.m ∧ c'.d = c.d ∧ ∀ gd, guardOf ops.toList env' o = some gd → strO o (genv gd env') = false)) : LateOK N' ops o env' lo c' := by
  rcases h with ⟨gd, chk, e, h⟩ | h
  · have hgd : guardOf ops.toList env' o = some gd := by rw [guardOf_congr (env' := env) h1, h.grd]
    refine .inl ⟨gd, chk, e, hgd, ?_, h.ck, fun d hd => ?_⟩
    · have e0 : sem o (genv gd env') lo c = some (chk, e) := by rw [sem_looks h1, h.sm]
      rcases hc with rfl | ⟨q1, q2, q3⟩
      · exact e0
      · rw [sem_str (q3 gd hgd) q1 q2]
        exact e0
    · rw [h2 d hd]; exact h.ent d hd
  · exact .inr (h.step hN h1 h2)

theorem eqE_ok {e e' : Ent} {b : Bool} (h : eqE e e' = some b) (hb : b = true) {N : Nm} {lam : Nat → Nat} {v : Value} (hv : REnt N lam e v) : REnt N lam e' v := by
  subst hb
  unfold eqE at h
  split at h
  · obtain ⟨h1, h⟩ := cond_some h
    injection h with h
    have := Nat.eq_of_beq_eq_true h
    subst this
    simp only [REnt] at hv ⊢
    exact fitSh_ok h1 hv
  · next x y =>
    injection h with h
    have : x = y := by cases x <;> cases y <;> simp_all [eqB, notB]
    rw [← this]; exact hv
  · obtain ⟨h1, _⟩ := cond_some h
    rw [← Nat.eq_of_beq_eq_true h1]; exact hv
  · cases h
/-- What is checked anew may still come late. -/
theorem again_ok {N N' : Nm} (hN : Ext N N') {ops : Array Oper} {o : Oper} {env env' : Env} {lo lo' : Lo} {c c' : Core} (h : LateOK N ops o env lo c) (h1 : ∀ t ∈ o.looksAt ops, getA env' t = getA env t) (h2 : ∀ d, o.dst = some d → getA env' d = getA env d) :
    (∀ k, again ops.toList o env' lo' c' k = false) ∨ ((∀ k, again ops.toList o env' lo' c' k = k) ∧ LateOK N' ops o env' lo' c') := by
  rcases h with ⟨gd, chk, e, h⟩ | h
  case inr =>
    refine .inr ⟨fun k => ?_, .inr (h.step hN h1 h2)⟩
    obtain ⟨t, X, Y, t', f1, x, f2, y, l, m, hg, hop, _⟩ := h
    have hgo : guardOf ops.toList env' o = some none := by unfold guardOf; rw [hg]
    have hst : stateO o (genv none env') = false := by unfold stateO; rw [hop]
    unfold again
    rw [hgo]
    simp only [hst, cond_false]
  have hgd : guardOf ops.toList env' o = some gd := by rw [guardOf_congr (env' := env) h1, h.grd]
  have hsem : sem o (genv gd env') lo c = some (chk, e) := by rw [sem_looks h1, h.sm]
  unfold again
  rw [hgd]
  simp only
  cases hst : stateO o (genv gd env') with
  | false =>
    refine .inr ⟨fun k => rfl, .inl ⟨gd, chk, e, hgd, ?_, h.ck, fun d hd => ?_⟩⟩
    · rw [← hsem]; exact sem_state hst
    · rw [h2 d hd]; exact h.ent d hd
  | true =>
    simp only [cond_true]
    cases hd : o.dst with
    | none => exact .inl fun k => rfl
    | some d =>
      simp only
      obtain ⟨e'', q1, q2⟩ := h.ent d hd
      have q1' : getA env' d = some (gent gd e'') := by rw [h2 d hd]; exact q1
      rw [q1']
      cases hs : sem o (genv gd env') lo' c' with
      | none => exact .inl fun k => rfl
      | some ce =>
        obtain ⟨chk', e1⟩ := ce
        simp only
        have hun : unG gd (gent gd e'') = some e'' := by
          cases gd with
          | none => rfl
          | some swg => obtain ⟨s, w, g⟩ := swg; rfl
        rw [hun]
        simp only
        cases he : eqE e1 e'' with
        | none => exact .inl fun k => rfl
        | some b =>
          simp only
          rcases chk_cases (gchk gd chk') with hc | hc
          · rcases chk_cases (gchk gd (some b)) with hc2 | hc2
            · refine .inr ⟨fun k => (chkK_true hc).trans (chkK_true hc2), .inl ⟨gd, chk', e1, hgd, hs, hc, fun d' hd' => ?_⟩⟩
              rw [hd] at hd'
              cases hd'
              refine ⟨e'', q1', fun ht N lam v hv => ?_⟩
              have hb : b = true := by
                cases gd with
                | none => exact hc2 _ rfl
                | some swg =>
                  obtain ⟨s, w, gb⟩ := swg
                  have h3 := ht _ _ _ rfl
                  subst h3
                  exact hc2 _ rfl
              exact eqE_ok he hb hv
            · exact .inl fun k => (chkK_true hc).trans (chkK_false hc2)
          · exact .inl fun k => chkK_false hc
end Go.Proofs.YtaekfgbfpfecdaaGreat.VM

/- An operation sets its own slot and no other; no conditions but those that each theorem names. -/
namespace Go.Proofs.YtaekfgbfpfecdaaGreat.VM
open Go
set_option linter.unusedVariables false
set_option linter.unusedSimpArgs false
variable {P : Program} [Df]
set_option linter.unusedSectionVars false

/-- From here to there, with no slot changed but one. -/
def EnvDef (dst : Option Nat) (env : Env) (F : (Env → Lo → Core → Bool) → Bool) : Prop :=
  (∀ k, F k = false) ∨ ∃ env' lo' c', (∀ k, F k = k env' lo' c') ∧ ∀ t, dst ≠ some t → getA env' t = getA env t
theorem EnvDef.no {dst : Option Nat} {env : Env} : EnvDef dst env (fun _ => false) := .inl fun _ => rfl
theorem EnvDef.chk {dst : Option Nat} {env : Env} {F : (Env → Lo → Core → Bool) → Bool} {chk : Option Bool} (h : EnvDef dst env F) : EnvDef dst env (fun k => chkK chk (F k)) := by
  rcases chk_cases chk with hc | hc
  · rcases h with h | ⟨e, l, c, h1, h2⟩
    · exact .inl fun k => (chkK_true hc).trans (h k)
    · exact .inr ⟨e, l, c, fun k => (chkK_true hc).trans (h1 k), h2⟩
  · exact .inl fun k => chkK_false hc
theorem EnvDef.ite {dst : Option Nat} {env : Env} {F F' : (Env → Lo → Core → Bool) → Bool} {b : Bool} (h : EnvDef dst env F) (h' : EnvDef dst env F') : EnvDef dst env (fun k => cond b (F k) (F' k)) := by
  cases b
  · exact h'
  · exact h
theorem EnvDef.set {nt : Nat} {forced : List Nat} {dst : Option Nat} {gd : Gd} {e : Ent} {env : Env} {lo : Lo} {c : Core} : EnvDef dst env (fun k => setK nt forced dst gd e env (fun env => k env lo c)) := by
  rcases setK_def nt forced dst gd e env with hd | ⟨env', hd, hset⟩
  · exact .inl fun k => hd _
  · refine .inr ⟨env', lo, c, fun k => hd _, fun t ht => ?_⟩
    cases hdst : dst with
    | none => rw [hset.none_ hdst]
    | some d =>
      obtain ⟨_, _, _, e', rfl, _, _⟩ := hset.some_ d hdst
      rw [getA_cons, if_neg]
      intro hdt
      exact ht (by rw [hdst, hdt])
theorem EnvDef.loc {nt d : Nat} {e : Ent} {b : LoE} {env : Env} {lo : Lo} {c : Core} : EnvDef (some d) env (fun k => newLoc nt d e b env lo (fun env lo => k env lo c)) := by
  unfold newLoc
  refine EnvDef.ite (.inr ⟨_, _, _, fun k => rfl, fun t ht => ?_⟩) .no
  rw [getA_cons, if_neg]
  intro h
  exact ht (by rw [h])
theorem EnvDef.row {dst : Option Nat} {env : Env} {n y : Nat} {zero : Bool} {c : Core} {F : Core → (Env → Lo → Core → Bool) → Bool} (h : ∀ c', EnvDef dst env (F c')) : EnvDef dst env (fun k => nRow n y zero c (fun c' => F c' k)) := by
  unfold nRow
  simp only [force_eq]
  refine EnvDef.ite ?_ .no
  cases zero
  · exact h _
  · exact h _

theorem call_env {I : FI} (hfns : FnsOK P I.fns) {dst : Option Nat} {gd : Gd} {f : Operand} {args : List Operand} {env : Env} {lo : Lo} {c : Core} : EnvDef dst env (fun k => denCall I dst gd f args env lo c k) := by
  unfold denCall
  cases ht : tgtOf I dst (genv gd env) f with
  | none => exact .no
  | some t =>
  simp only
  cases hrs : tgtRs I t with
  | none => exact .no
  | some rs =>
  simp only
  cases gd with
  | none =>
    simp only
    rcases callT_def (P := P) hfns t args env c rs hrs with h | ⟨xs, c', h1, h2, h3⟩
    · refine .inl fun k => ?_
      cases manyC t with
      | false => exact h _
      | true => simp only [join_eq]; exact h _
    · cases manyC t with
      | false => simp only [h1]; exact EnvDef.set
      | true => simp only [join_eq, h1, ap_of (lenS rs) _ xs c' (by rw [lenS_eq]; exact h2)]; exact EnvDef.set
  | some swg =>
    obtain ⟨s, wt, gb⟩ := swg
    simp only [join_eq]
    cases gb with
    | false =>
      simp only [cond_false, ap_of (lenS rs) _ (zerosS rs) c (by rw [lenS_eq]; exact zerosS_len rs)]
      exact EnvDef.set
    | true =>
      simp only [cond_true]
      rcases callT_def (P := P) hfns t args (unlock s wt env) c rs hrs with h | ⟨xs, c', h1, h2, h3⟩
      · exact .inl fun k => h _
      · simp only [h1, ap_of (lenS rs) _ xs c' (by rw [lenS_eq]; exact h2)]
        exact EnvDef.set
theorem clear_env {I : FI} {dst : Option Nat} {ts : List Nat} {s : Operand} {env : Env} {lo : Lo} {c : Core} : EnvDef dst env (fun k => denClear I dst ts s env lo c k) := by
  unfold denClear
  split
  · next t =>
    generalize ty t = r
    split
    · next el _ =>
      generalize (zeroOk el && Nat.blt 0 (lenK (lay el)) && Nat.beq (ty el).size (lenK (lay el))) = b
      generalize lay el = L
      refine EnvDef.ite ?_ .no
      split
      · refine EnvDef.ite ?_ .no
        simp only [join_eq, ap_of 0 _ [] _ rfl, wrK_eq]
        exact EnvDef.ite EnvDef.set (EnvDef.ite EnvDef.set .no)
      · exact .no
    · exact .no
  · exact .no
theorem append_env {I : FI} {dst : Option Nat} {ts : List Nat} {s x : Operand} {env : Env} {lo : Lo} {c : Core} : EnvDef dst env (fun k => denAppend I dst ts s x env lo c k) := by
  unfold denAppend
  split
  · next t t' =>
    generalize ty t = r
    refine EnvDef.ite ?_ .no
    split
    · next el _ =>
      generalize (zeroOk el && Nat.blt 0 (lenK (lay el)) && Nat.beq (ty el).size (lenK (lay el)) && Nat.blt (bytesT el) 1048576) = b
      refine EnvDef.ite ?_ .no
      split
      · split
        · next fl xs chk n y b _ _ =>
          generalize lay el = L
          refine EnvDef.chk ?_
          simp only [force_eq, join_eq]
          rcases appK_def (lenK L) xs n y c with hd | ⟨r, c', hto, hd⟩
          · exact .inl fun k => hd _
          · simp only [hd, ap_of 1 _ [r] _ rfl]
            exact EnvDef.set
        · exact .no
      · exact .no
    · exact .no
  · exact .no
theorem alloc_env {I : FI} {dst : Option Nat} {t : Nat} {env : Env} {lo : Lo} {c : Core} : EnvDef dst env (fun k => denAlloc I dst t env lo c k) := by
  unfold denAlloc
  cases dst with
  | none => exact .no
  | some d =>
    simp only
    generalize lay t = L
    generalize zeroOk t = z
    refine EnvDef.ite ?_ .no
    cases memN d I.locs with
    | true => exact EnvDef.loc
    | false =>
      simp only [force_eq]
      exact EnvDef.row fun c' => EnvDef.set
theorem box_env {I : FI} {dst : Option Nat} {t : Nat} {ev : Ent} {env : Env} {lo : Lo} {c : Core} : EnvDef dst env (fun k => denBox I dst t ev env lo c k) := by
  unfold denBox
  cases dst with
  | none => exact .no
  | some d =>
    simp only
    generalize lay t = L
    generalize ty t = r
    refine EnvDef.ite ?_ .no
    split
    · exact .no
    · cases memN d I.locs with
      | true => exact EnvDef.loc
      | false =>
        simp only [force_eq]
        exact EnvDef.row fun c' => EnvDef.set
theorem buildS_env {I : FI} {dst : Option Nat} {t len : Nat} {ps : List (Nat × Operand)} {env : Env} {lo : Lo} {c : Core} : EnvDef dst env (fun k => denBuildS I dst t len ps env lo c k) := by
  unfold denBuildS
  generalize ty t = r
  obtain ⟨td, n⟩ := r
  cases dst with
  | none => cases td <;> exact .inl fun k => rfl
  | some d =>
  cases td <;> first | exact .inl fun k => rfl | skip
  next el =>
  simp only
  cases q : (zeroOk el && Nat.blt 0 (lenK (lay el)) && Nat.beq (ty el).size (lenK (lay el)) && Nat.blt 0 len && Nat.blt (Nat.mul len (lenK (lay el))) 131072) with
  | false => exact .inl fun k => rfl
  | true =>
  simp only [cond_true]
  cases hy : partsN (placeArr len el) (repK len (lay el)) env ps 0 0 with
  | none => exact .inl fun k => rfl
  | some y =>
  simp only
  cases memN d I.locs with
  | true =>
    simp only [force_eq]
    exact EnvDef.loc
  | false =>
    simp only [force_eq, nRow]
    cases hb : Nat.blt (Nat.add c.t (Nat.mul len (lenK (lay el)))) 4194304 with
    | false => exact .inl fun k => rfl
    | true =>
      simp only [cond_true]
      exact EnvDef.set
theorem range_env {I : FI} {dst : Option Nat} {t : Nat} {e : Ent} {env : Env} {lo : Lo} {c : Core} : EnvDef dst env (fun k => denRange I dst t e env lo c k) := by
  unfold denRange
  generalize ty t = r
  split
  · exact EnvDef.loc
  · exact .no
theorem next_env {I : FI} {dst : Option Nat} {e : Ent} {env : Env} {lo : Lo} {c : Core} : EnvDef dst env (fun k => denNext I dst e env lo c k) := by
  unfold denNext
  split
  · split
    · next h p _ =>
      refine EnvDef.ite ?_ EnvDef.set
      simp only [force_eq]
      refine EnvDef.ite ?_ .no
      rcases setK_def I.nt I.forced dst none (.tup [.b true, .n (.one (.int .i64)) true p, .n (.one (.int .i32)) true (Nat.land (Nat.shiftRight c.s (Nat.add (strAt h) (Nat.shiftLeft p 3))) 255)]) env with hd | ⟨env', hd, hset⟩
      · exact .inl fun k => hd _
      · refine .inr ⟨env', _, c, fun k => hd _, fun t ht => ?_⟩
        cases hdst : dst with
        | none => rw [hset.none_ hdst]
        | some d =>
          obtain ⟨_, _, _, e', rfl, _, _⟩ := hset.some_ d hdst
          rw [getA_cons, if_neg]
          intro hdt
          exact ht (by rw [hdst, hdt])
    · exact .no
  · exact .no
theorem store_env {dst : Option Nat} {t : Nat} {ep ev : Ent} {env : Env} {lo : Lo} {c : Core} : EnvDef dst env (fun k => denStore t ep ev lo c (fun lo c => k env lo c)) := by
  unfold denStore
  generalize ty t = r
  split
  split
  · refine EnvDef.ite ?_ .no
    split
    · refine EnvDef.chk ?_
      exact .inr ⟨env, lo, _, fun k => wrK_eq _ _ _ _ _, fun _ _ => rfl⟩
    · exact .no
  · refine EnvDef.ite ?_ .no
    split
    · refine EnvDef.ite ?_ .no
      split
      · exact .inr ⟨env, _, c, fun k => force_eq _ _, fun _ _ => rfl⟩
      · exact .no
    · exact .no
  · exact .no
theorem cat_env {I : FI} {dst : Option Nat} {x y : Nat} {env : Env} {lo : Lo} {c : Core} : EnvDef dst env (fun k => denCat I dst x y env lo c k) := by
  unfold denCat
  simp only [force_eq]
  exact EnvDef.ite EnvDef.set .no

theorem empty_env {I : FI} {dst : Option Nat} {t : Nat} {ps : List (Nat × Operand)} {env : Env} {lo : Lo} {c : Core} : EnvDef dst env (fun k => denEmpty I dst t ps env lo c k) := by
  unfold denEmpty
  generalize ty t = r
  split
  · next el _ =>
    generalize (zeroOk el && Nat.blt 0 (lenK (lay el)) && Nat.beq (ty el).size (lenK (lay el))) = b
    exact EnvDef.ite EnvDef.set .no
  · exact .no
theorem str_env {I : FI} {dst : Option Nat} {t t' : Nat} {l : List K} {x : Nat} {env : Env} {lo : Lo} {c : Core} : EnvDef dst env (fun k => denStr I dst t t' l x env lo c k) := by
  unfold denStr
  generalize ty t = r
  generalize ty t' = r'
  split
  · next el _ =>
    generalize ty el = r3
    split
    · generalize (beqKs l (lay el) && beqKs l [.int .u8]) = b
      refine EnvDef.ite ?_ .no
      simp only [force_eq]
      exact EnvDef.ite EnvDef.set .no
    · exact .no
  · exact .no
theorem denOp_env {o : Oper} {I : FI} (hfns : FnsOK P I.fns) {env : Env} {lo : Lo} {c : Core} {gd : Gd} : EnvDef o.dst env (fun k => denOp I o gd env lo c k) := by
  have light : EnvDef o.dst env (fun k => match sem o (genv gd env) lo c with
      | some (chk, e) => chkK (gchk gd chk) (setK I.nt I.forced o.dst gd e env (fun env => k env lo c))
      | none => false) := by
    cases hs : sem o (genv gd env) lo c with
    | none => exact .no
    | some ce => exact EnvDef.set.chk
  unfold denOp
  split
  · split
    · exact call_env (P := P) hfns
    · split
      · exact append_env
      · exact clear_env
      · exact .no
      · exact .no
      · exact light
    · exact .no
  · split
    · exact store_env
    · exact .no
  · split
    · exact alloc_env
    · exact .no
  · split
    · exact box_env
    · exact .no
  · split
    · exact EnvDef.ite empty_env buildS_env
    · exact .no
  · split
    · exact str_env
    · exact light
  · split
    · exact range_env
    · exact .no
  · split
    · exact next_env
    · exact .no
  · split
    · exact cat_env
    · exact light
  · exact light
end Go.Proofs.YtaekfgbfpfecdaaGreat.VM

/- A frame's own block that was made early comes to be named; no conditions but those that each theorem names. -/
namespace Go.Proofs.YtaekfgbfpfecdaaGreat.VM
open Go
set_option linter.unusedVariables false
set_option linter.unusedSimpArgs false
variable {P : Program} [Df]
set_option linter.unusedSectionVars false

theorem OK.nameLoc {nt : Nat} {G G' : Nat → Prop} {N : Nm} {lam : Nat → Nat} {env : Env} {lo : Lo} {c : Core} {a : Act} {w : World} (h : OK nt G' N lam env lo c a w) {g : Nat} {ob : Obj} (hw : w.heap[g]? = some ob) (hg : G' g) (hG : ∀ x, G x → G' x ∧ x ≠ g) {d : Nat}
    (hd : (noLo d lo && noL d env && noG d env && Nat.blt d nt) = true) {b : LoE} (hb : (∀ l x, b = .blk l x → ∃ arr ty, ob = .cells arr ty (0, 0) ∧ x < 2 ^ (64 * l.length) ∧ RL N l x arr.toList) ∧
      (∀ q p, b = .itr q p → ∃ bs, (StrAt N q bs ∧ p ≤ bs.length) ∧ ob = .stringIter ⟨bs.toArray⟩ p)) {e : Ent} (heg : ∀ s w g x, e ≠ .g s w g x) {v : Value} (hv : REnt N (upd lam d g) e v) :
    OK nt G N (upd lam d g) ((d, some e) :: env) ((d, some b) :: lo) c (a.put (some d) v) w := by
  simp only [Bool.and_eq_true, blt_eq, decide_eq_true_eq] at hd
  obtain ⟨⟨⟨h1, h2⟩, h3⟩, h4⟩ := hd
  have h1 := noLo_ok h1
  have hdlt : d < a.tmps.size := by rw [h.nt]; exact h4
  have hcell : ∀ b g' o k mo sp, N.ln b = some (.cell g' o k mo sp) → g' ≠ g := fun b g' o k mo sp hb e => h.off g b o k mo sp hg (e ▸ hb)
  have hne : ∀ i e, getA lo i = some e → lam i ≠ g := fun i e hi he => h.prot i e hi (he ▸ hg)
  have hu : ∀ i, i ≠ d → upd lam d g i = lam i := fun i hi => by simp [upd, hi]
  have hud : upd lam d g d = g := by simp [upd]
  refine ⟨⟨?_, ?_, ?_, ?_, ?_, ?_⟩, h.rel, h.pools, fun x b o k mo sp hx hb => h.off x b o k mo sp (hG x hx).1 hb, fun x hx => h.ing x (hG x hx).1, ?_, by simp [Act.put, h.nt], h.df⟩
  · intro i x hx
    rw [getA_cons] at hx
    rw [put_get]
    split at hx
    · next hi => cases hx; rw [if_pos ⟨hi, hdlt⟩]; exact ⟨v, rfl, hv⟩
    · next hi =>
      rw [if_neg (fun h => hi h.1)]
      obtain ⟨u, q1, q2⟩ := h.re.slot i x hx
      exact ⟨u, q1, noL_ok h2 hx q2⟩
  · intro i s want gb x hx
    rw [getA_cons] at hx
    split at hx
    · cases hx; exact absurd rfl (heg _ _ _ _)
    · obtain ⟨⟨es, k1, k2⟩, k4⟩ := h.re.grd i s want gb x hx
      refine ⟨⟨es, ?_, k2⟩, k4⟩
      rw [getA_cons, if_neg (Ne.symm (noG_ok h3 hx))]
      exact k1
  · intro i l x hi
    rw [getA_cons] at hi
    split at hi
    · next hid =>
      subst hid
      cases hi
      obtain ⟨arr, ty, rfl, q1, q2⟩ := hb.1 _ _ rfl
      exact ⟨arr, ty, by rw [hud]; exact hw, q1, q2⟩
    · next hid =>
      rw [hu i (Ne.symm hid)]
      exact h.re.blk i l x hi
  · intro i q p hi
    rw [getA_cons] at hi
    split at hi
    · next hid =>
      subst hid
      cases hi
      obtain ⟨bs, q1, rfl⟩ := hb.2 _ _ rfl
      exact ⟨bs, q1, by rw [hud]; exact hw⟩
    · next hid =>
      rw [hu i (Ne.symm hid)]
      exact h.re.itr i q p hi
  · intro i e' hi bb g' o k mo sp hbb
    rw [getA_cons] at hi
    split at hi
    · next hid =>
      subst hid
      rw [hud]
      exact hcell _ _ _ _ _ _ hbb
    · next hid => rw [hu i (Ne.symm hid)]; exact h.re.off i e' hi bb g' o k mo sp hbb
  · intro i j e1 e2 hi hj he
    rw [getA_cons] at hi hj
    split at hi
    · next hid =>
      subst hid
      split at hj
      · next hjd => exact hjd
      · next hjd =>
        rw [hud, hu j (Ne.symm hjd)] at he
        exact absurd he.symm (hne j _ hj)
    · next hid =>
      split at hj
      · next hjd =>
        subst hjd
        rw [hud, hu i (Ne.symm hid)] at he
        exact absurd he (hne i _ hi)
      · next hjd =>
        rw [hu i (Ne.symm hid), hu j (Ne.symm hjd)] at he
        exact h.re.inj i j _ _ hi hj he
  · intro i e' hi
    rw [getA_cons] at hi
    split at hi
    · next hid =>
      subst hid
      rw [hud]
      exact fun hx => (hG _ hx).2 rfl
    · next hid => rw [hu i (Ne.symm hid)]; exact fun hx => h.prot i e' hi (hG _ hx).1

/-- An operation that makes a block of the frame's own: what it makes, wherever it is run. -/
structure Makes (P : Program) (o : Oper) (a : Act) (cells : Array Value) (ty : TypeId) (v : Nat → Value) : Prop where
  run : ∀ w0 : World, (execOp a.eval o).run P w0 = .ok (.value (v w0.heap.size)) { w0 with heap := w0.heap.push (.cells cells ty (0, 0)) }
theorem alloc_makes (hF : Facts P) {o : Oper} {t : TypeId} (hop : o.op = .alloc t) (hq : zeroOk t = true) (a : Act) :
    ∃ z : Value, Makes P o a z.cells t (fun n => .pointer (some ⟨n, 0, none⟩)) ∧ ∀ N c w, Rel N c w → RL N (lay t) 0 z.cells.toList := by
  obtain ⟨it, z, hit, hz, hzl, _⟩ := hF.zero t hq
  refine ⟨z, ⟨fun w0 => ?_⟩, hzl⟩
  simp only [execOp, hop]
  simp only [Sem.run_bind, run_alloc hit hz, Result.andThen_ok, Sem.run_pure]
theorem buildS_makes (hF : Facts P) {o : Oper} {t len : Nat} {ps : Array (Nat × Operand)} (hop : o.op = .buildSlice t len ps) {el n : Nat} (hty : ty t = ⟨.sli el, n⟩)
    (q1 : zeroOk el = true) (hl : 0 < (lay el).length) (q3 : (ty el).size = (lay el).length) (q4 : 0 < len) (q5 : len * (lay el).length < 131072) {env : Env} {y : Nat} (hy : partsN (placeArr len el) (repK len (lay el)) env ps.toList 0 0 = some y)
    {nt : Nat} {G : Nat → Prop} {N : Nm} {lam : Nat → Nat} {lo : Lo} {c : Core} {a : Act} {w : World} (hok : OK nt G N lam env lo c a w) :
    ∃ cells : Array Value, Makes P o a cells el (fun g => .slice (some ⟨g, 0, none⟩) len len) ∧ RL N (repK len (lay el)) y cells.toList ∧ y < 2 ^ (64 * (repK len (lay el)).length) := by
  have hu := hF.sli t _ _ hty
  obtain ⟨it, z, hit, hz, hzl, _⟩ := hF.zero el q1
  obtain ⟨hsz, _⟩ := hF.size el (by omega)
  have hisz : it.size = (lay el).length := by rw [hit] at hsz; simp at hsz; omega
  have hlpos : 1 * (lay el).length ≤ len * (lay el).length := Nat.mul_le_mul_right _ q4
  have hz0 := zero_row (hzl N c w hok.rel) hl len
  have hzs : z.cells.size = (lay el).length := (hzl N c w hok.rel).1
  obtain ⟨cells, hfill, hrl, hlt⟩ := fill_ok hok.pools hok.re (pl := fun i => some (i * it.size, it.size)) (fun i o z g hh => by
    unfold placeArr at hh
    obtain ⟨_, hh⟩ := cond_some hh
    cases hh
    rw [hisz, ← q3]
    rfl) _ _ _ ((Array.range (len * (lay el).length)).map (z.cells[· % (lay el).length]!)) _ hy (Nat.two_pow_pos _) (fun j _ => lane_zero j) hz0
  refine ⟨cells, ⟨fun w0 => ?_⟩, hrl, hlt⟩
  have := run_buildS (P := P) (w := w0) hu hit hz (by omega) (by rw [hisz]; omega) (by rw [hisz]; omega) (parts := ps.map fun (i, x) => (i, a.eval x)) (cells := cells) (len := len) (by
    rw [hisz]
    rw [← hfill]
    rw [hisz]
    simp)
  simp only [execOp, hop]
  simp only [Sem.run_bind, this, Result.andThen_ok, Sem.run_pure]
theorem Makes.unique {o : Oper} {a : Act} {cells cells' : Array Value} {ty ty' : TypeId} {v v' : Nat → Value} (h : Makes P o a cells ty v) (h' : Makes P o a cells' ty' v') (w : World) : cells = cells' ∧ ty = ty' ∧ ∀ g, v g = v' g := by
  have key : ∀ w0 : World, v w0.heap.size = v' w0.heap.size ∧ w0.heap.push (.cells cells ty (0, 0)) = w0.heap.push (.cells cells' ty' (0, 0)) := by
    intro w0
    have h1 := h.run w0
    rw [h'.run w0] at h1
    injection h1 with h2 h3
    injection h2 with h2
    have h4 : (w0.heap.push (.cells cells' ty' (0, 0))) = (w0.heap.push (.cells cells ty (0, 0))) := congrArg World.heap h3
    exact ⟨h2.symm, h4.symm⟩
  have h5 := congrArg (fun x => x[w.heap.size]?) (key w).2
  simp only [Array.getElem?_push_size] at h5
  injection h5 with h5
  injection h5 with h6 h7
  refine ⟨h6, h7, fun g => ?_⟩
  have := (key { w with heap := Array.replicate g (.cells #[] 0 (0, 0)) }).1
  simpa using this

theorem early_name (hF : Facts P) {I : FI} {o : Oper} (hA : isAI I o = true) {env : Env} {lo : Lo} {c : Core} : (∀ k, denOp I o none env lo c k = false) ∨
    ∃ env' lo' d, o.dst = some d ∧ (∀ k, denOp I o none env lo c k = k env' lo' c) ∧ ∀ G G' N lam a w, OK I.nt G' N lam env lo c a w → ∀ cells ty v g, Makes P o a cells ty v → w.heap[g]? = some (.cells cells ty (0, 0)) → G' g →
      (∀ x, G x → G' x ∧ x ≠ g) → OK I.nt G N (upd lam d g) env' lo' c (a.put (some d) (v g)) w := by
  unfold isAI at hA
  split at hA
  · next d hg hd =>
    split at hA
    · next t hop =>
      have e : ∀ k, denOp I o none env lo c k = denAlloc I o.dst t env lo c k := fun k => by unfold denOp; rw [hop]
      simp only [denAlloc, hd, hA] at e
      cases q : (zeroOk t && Nat.blt 0 (lenK (lay t))) with
      | false => exact .inl fun k => by rw [e, q]; rfl
      | true =>
        simp only [q, cond_true, newLoc] at e
        simp only [Bool.and_eq_true] at q
        cases hdd : (noLo d lo && noL d env && noG d env && Nat.blt d I.nt) with
        | false => exact .inl fun k => by rw [e, hdd]; rfl
        | true =>
          refine .inr ⟨_, _, d, hd, fun k => by rw [e, hdd]; rfl, ?_⟩
          intro G G' N lam a w hok cells ty v g hm hw hG' hG
          obtain ⟨z, hmz, hzl⟩ := alloc_makes hF hop q.1 a
          obtain ⟨rfl, rfl, hv⟩ := hm.unique hmz w
          rw [hv]
          exact hok.nameLoc hw hG' hG hdd ⟨fun l x h => by cases h; exact ⟨_, _, rfl, Nat.two_pow_pos _, hzl N c w hok.rel⟩, fun q p h => by cases h⟩ (fun s w g x h => by cases h) (by simp [REnt, upd])
    · next t len ps hop =>
      obtain ⟨hl0, hA⟩ : Nat.beq len 0 = false ∧ memN d I.locs = true := by
        cases hl0 : Nat.beq len 0 <;> rw [hl0] at hA
        · exact ⟨rfl, hA⟩
        · cases hA
      have e : ∀ k, denOp I o none env lo c k = denBuildS I o.dst t len ps.toList env lo c k := fun k => by unfold denOp; rw [hop]; simp only [hl0, cond_false]
      simp only [denBuildS, hd] at e
      cases hty : ty t with
      | mk td n =>
      rw [hty] at e
      cases td <;> first | exact .inl (fun k => e k) | skip
      next el =>
      simp only at e
      cases q : (zeroOk el && Nat.blt 0 (lenK (lay el)) && Nat.beq (ty el).size (lenK (lay el)) && Nat.blt 0 len && Nat.blt (Nat.mul len (lenK (lay el))) 131072) with
      | false => exact .inl fun k => by rw [e, q]; rfl
      | true =>
      rw [q] at e
      simp only [cond_true] at e
      simp only [Bool.and_eq_true, blt_eq, decide_eq_true_eq, lenK_eq] at q
      obtain ⟨⟨⟨⟨q1, hl⟩, q3⟩, q4⟩, q5⟩ := q
      have q3 := Nat.eq_of_beq_eq_true q3
      have q5 : len * (lay el).length < 131072 := q5
      cases hy : partsN (placeArr len el) (repK len (lay el)) env ps.toList 0 0 with
      | none => exact .inl fun k => by rw [e, hy]
      | some y =>
      rw [hy] at e
      simp only [hA, force_eq, newLoc] at e
      cases hdd : (noLo d lo && noL d env && noG d env && Nat.blt d I.nt) with
      | false => exact .inl fun k => by rw [e, hdd]; rfl
      | true =>
        refine .inr ⟨_, _, d, hd, fun k => by rw [e, hdd]; rfl, ?_⟩
        intro G G' N lam a w hok cells ty v g hm hw hG' hG
        obtain ⟨cs, hmz, hrl, hlt⟩ := buildS_makes hF hop hty q1 hl q3 q4 q5 hy hok
        obtain ⟨rfl, rfl, hv⟩ := hm.unique hmz w
        rw [hv]
        exact hok.nameLoc hw hG' hG hdd ⟨fun l x h => by cases h; exact ⟨_, _, rfl, hlt, hrl⟩, fun q p h => by cases h⟩ (fun s w g x h => by cases h) (by simp [REnt, upd])
    · cases hA
  · cases hA
theorem early_makes (hF : Facts P) {ops : Array Oper} {I : FI} {o : Oper} (hA : isAI I o = true) {envr : Env} {lor : Lo} {cr : Core} (hdef : ¬ ∀ k, denOp I o none envr lor cr k = false) {env : Env} (hag : ∀ t ∈ o.looksAt ops, getA env t = getA envr t)
    {nt : Nat} {G : Nat → Prop} {N : Nm} {lam : Nat → Nat} {lo : Lo} {c : Core} {a : Act} {w : World} (hok : OK nt G N lam env lo c a w) : ∃ cells ty v, Makes P o a cells ty v := by
  unfold isAI at hA
  split at hA
  · next d hg hd =>
    split at hA
    · next t hop =>
      have e : ∀ k, denOp I o none envr lor cr k = denAlloc I o.dst t envr lor cr k := fun k => by unfold denOp; rw [hop]
      simp only [denAlloc, hd, hA] at e
      cases q : (zeroOk t && Nat.blt 0 (lenK (lay t))) with
      | false => exact absurd (fun k => by rw [e, q]; rfl) hdef
      | true =>
        simp only [Bool.and_eq_true] at q
        obtain ⟨z, hmz, _⟩ := alloc_makes hF hop q.1 a
        exact ⟨_, _, _, hmz⟩
    · next t len ps hop =>
      obtain ⟨hl0, hA⟩ : Nat.beq len 0 = false ∧ memN d I.locs = true := by
        cases hl0 : Nat.beq len 0 <;> rw [hl0] at hA
        · exact ⟨rfl, hA⟩
        · cases hA
      have e : ∀ k, denOp I o none envr lor cr k = denBuildS I o.dst t len ps.toList envr lor cr k := fun k => by unfold denOp; rw [hop]; simp only [hl0, cond_false]
      simp only [denBuildS, hd] at e
      cases hty : ty t with
      | mk td n =>
      rw [hty] at e
      cases td <;> first | exact absurd (fun k => e k) hdef | skip
      next el =>
      simp only at e
      cases q : (zeroOk el && Nat.blt 0 (lenK (lay el)) && Nat.beq (ty el).size (lenK (lay el)) && Nat.blt 0 len && Nat.blt (Nat.mul len (lenK (lay el))) 131072) with
      | false => exact absurd (fun k => by rw [e, q]; rfl) hdef
      | true =>
      rw [q] at e
      simp only [cond_true] at e
      simp only [Bool.and_eq_true, blt_eq, decide_eq_true_eq, lenK_eq] at q
      obtain ⟨⟨⟨⟨q1, hl⟩, q3⟩, q4⟩, q5⟩ := q
      have q3 := Nat.eq_of_beq_eq_true q3
      have q5 : len * (lay el).length < 131072 := q5
      have hpc : partsN (placeArr len el) (repK len (lay el)) env ps.toList 0 0 = partsN (placeArr len el) (repK len (lay el)) envr ps.toList 0 0 := by
        refine partsN_congr fun p hp => getA_raw fun t ht => hag t (looks_tmp ?_)
        rw [hop]
        simp only [Op.operands]
        rw [← ht]
        have : p.2 ∈ ps.toList.map (·.2) := List.mem_map.2 ⟨p, hp, rfl⟩
        simpa using this
      cases hy : partsN (placeArr len el) (repK len (lay el)) envr ps.toList 0 0 with
      | none => exact absurd (fun k => by rw [e, hy]) hdef
      | some y =>
        obtain ⟨cs, hmz, _⟩ := buildS_makes hF hop hty q1 hl q3 q4 q5 (hpc.trans hy) hok
        exact ⟨_, _, _, hmz⟩
    · cases hA
  · cases hA
end Go.Proofs.YtaekfgbfpfecdaaGreat.VM

/- An operation carried from one act to another that agrees where it looks; what the machine will do, looked at ahead; no conditions but those that each theorem names. -/
namespace Go.Proofs.YtaekfgbfpfecdaaGreat.VM
open Go
set_option linter.unusedVariables false
set_option linter.unusedSimpArgs false
variable {P : Program} [Df]
set_option linter.unusedSectionVars false

/-- Two acts that agree on slots. -/
def Agree (l : List Nat) (a b : Act) : Prop := ∀ t ∈ l, a.tmps[t]? = b.tmps[t]?
theorem Agree.eval {ops : Array Oper} {o : Oper} {a b : Act} (h : Agree (o.looksAt ops) a b) : ∀ x ∈ o.op.operands, a.eval x = b.eval x := by
  intro x hx
  cases x with
  | tmp t =>
    have := h t (looks_tmp hx)
    simp only [Act.eval, Array.getD_eq_getD_getElem?, this]
  | const v => rfl
  | func f => rfl
  | global g => rfl
theorem Agree.wanted {ops : Array Oper} {o : Oper} {a b : Act} (h : Agree (o.looksAt ops) a b) : Region.wanted o (yielded ops a.tmps) = Region.wanted o (yielded ops b.tmps) := by
  unfold Region.wanted
  cases hg : o.guard with
  | none => rfl
  | some gw =>
    obtain ⟨g, want⟩ := gw
    have hy : yielded ops a.tmps g = yielded ops b.tmps g := by
      unfold yielded
      cases ho : ops[g]? with
      | none => rfl
      | some og =>
        simp only [Option.bind_some]
        cases hd : og.dst with
        | none => rfl
        | some t => simp only [Option.bind_some, h t (looks_guard hg ho hd)]
    simp only [hy]
theorem Agree.exec {ops : Array Oper} {o : Oper} (hs : ∀ cs b, o.op ≠ .select cs b) {a b : Act} (h : Agree (o.looksAt ops) a b) : execOp a.eval o = execOp b.eval o := execOp_congr o hs h.eval

theorem letsOut_false {α : Prop} (h : LetsOut (fun _ _ _ => False)) : α := by
  obtain ⟨_, _, h⟩ := h
  exact h.elim
/-- What is shown at one act holds at another. -/
theorem wpOp_carry {ops : Array Oper} {i : Nat} {o : Oper} (ho : ops[i]? = some o) (hs : ∀ cs b, o.op ≠ .select cs b) {a b : Act} {w : World} (hag : Agree (o.looksAt ops) a b) {K : Act → World → Prop} {Q : Exit → Act → World → Prop}
    (hb : b.defers = Df.l) (hKd : ∀ a' w', K a' w' → a'.defers = Df.l) (h : wpOp P ops (fun _ _ _ => False) i K b w) : wpOp P ops Q i (fun a' w' => ∃ v, a' = a.put o.dst v ∧ K (b.put o.dst v) w') a w := by
  unfold wpOp at *
  simp only [ho] at *
  rw [hag.wanted]
  split
  · next hw =>
    simp only [hw, if_true] at h
    rcases h with h | ⟨_, h⟩
    · refine .inl ?_
      unfold Oper.wp at *
      rw [hag.exec hs]
      generalize (execOp b.eval o).run P w = r at *
      cases r with
      | halt x w' => cases x <;> simp only [Oper.upon] at h
      | ok n w' =>
        cases n <;> simp only [Oper.upon] at h ⊢
        case value v => exact ⟨v, rfl, h⟩
        case skip => exact ⟨undef, rfl, h⟩
        case enter f xs =>
          refine Calls.mono h fun e w'' he => ?_
          cases e with
          | returned v => exact ⟨v, rfl, he⟩
          | panicked c => exact he.elim
          | outgrown => exact letsOut_false he
        case row row xs => exact Rows.mono h fun v w'' he => ⟨v, rfl, he⟩
        case defer d =>
          have := hKd _ _ h
          cases hd : o.dst <;> rw [hd] at this <;> simp [Act.put, ← hb] at this
    · exact letsOut_false h
  · next hw =>
    simp only [hw] at h
    exact ⟨undef, rfl, h⟩
end Go.Proofs.YtaekfgbfpfecdaaGreat.VM

/- What the machine's run of a drawn region says, step by step; no conditions but those that each theorem names. -/
namespace Go.Proofs.YtaekfgbfpfecdaaGreat.VM
open Go
set_option linter.unusedVariables false
set_option linter.unusedSimpArgs false
variable {P : Program} [Df]
set_option linter.unusedSectionVars false

theorem chkK_tri (chk : Option Bool) : (∀ k, chkK chk k = false) ∨ ∀ k, chkK chk k = k := by
  rcases chk_cases chk with h | h
  · exact .inr fun k => chkK_true h
  · exact .inl fun k => chkK_false h
theorem again_tri (all : List Oper) (o : Oper) (env : Env) (lo : Lo) (c : Core) : (∀ k, again all o env lo c k = false) ∨ ∀ k, again all o env lo c k = k := by
  unfold again
  cases guardOf all env o with
  | none => exact .inl fun k => rfl
  | some gd =>
    simp only
    cases stateO o (genv gd env) with
    | false => exact .inr fun k => rfl
    | true =>
      simp only [cond_true]
      cases o.dst with
      | none => exact .inl fun k => rfl
      | some d =>
        simp only
        cases getA env d with
        | none => exact .inl fun k => rfl
        | some e0 =>
          cases sem o (genv gd env) lo c with
          | none => exact .inl fun k => rfl
          | some ce =>
            simp only
            cases unG gd e0 with
            | none => exact .inl fun k => rfl
            | some e1 =>
              simp only
              cases eqE ce.2 e1 with
              | none => exact .inl fun k => rfl
              | some b =>
                simp only
                rcases chkK_tri (gchk gd ce.1) with h | h
                · exact .inl fun k => h _
                · rcases chkK_tri (gchk gd (some b)) with h2 | h2
                  · exact .inl fun k => (h _).trans (h2 _)
                  · exact .inr fun k => (h _).trans (h2 _)
theorem againAll_tri {ops : Array Oper} (mi : Nat) (env : Env) (lo : Lo) (c : Core) : ∀ l : List (Nat × Nat), (∀ k, againAll ops.toList mi env lo c k l = false) ∨ ((∀ k, againAll ops.toList mi env lo c k l = k) ∧
    ∀ j, (j, 0) ∈ l → mi.testBit j = false → ∃ o, ops[j]? = some o ∧ ∀ k, again ops.toList o env lo c k = k)
  | [] => .inr ⟨fun k => rfl, fun j h => by cases h⟩
  | (j, q) :: l => by
    have ih := againAll_tri (ops := ops) mi env lo c l
    match q with
    | 0 =>
      simp only [againAll, bitOf_eq, nthO_eq]
      have hl : ops.toList[j]? = ops[j]? := Array.getElem?_toList
      rw [hl]
      cases hb : mi.testBit j with
      | true =>
        rcases ih with ih | ⟨h1, h2⟩
        · exact .inl ih
        · refine .inr ⟨h1, fun j' hj' hb' => ?_⟩
          rcases List.mem_cons.1 hj' with h | h
          · injection h with e1 e2
            rw [e1, hb] at hb'; cases hb'
          · exact h2 j' h hb'
      | false =>
        simp only [cond_false]
        cases ho : ops[j]? with
        | none => exact .inl fun k => rfl
        | some o =>
          simp only
          rcases again_tri ops.toList o env lo c with h | h
          · exact .inl fun k => h _
          · rcases ih with ih | ⟨h1, h2⟩
            · exact .inl fun k => (h _).trans (ih k)
            · refine .inr ⟨fun k => (h _).trans (h1 k), fun j' hj' hb' => ?_⟩
              rcases List.mem_cons.1 hj' with h' | h'
              · injection h' with e1 e2
                subst e1
                exact ⟨o, ho, h⟩
              · exact h2 j' h' hb'
    | q + 1 =>
      simp only [againAll]
      rcases ih with ih | ⟨h1, h2⟩
      · exact .inl ih
      · refine .inr ⟨h1, fun j' hj' hb' => ?_⟩
        rcases List.mem_cons.1 hj' with h | h
        · injection h with e1 e2
          cases e2
        · exact h2 j' h hb'

/-- The machine's run ends here. -/
def Ends (I : FI) (ops : Array Oper) (ms : List (Nat × Nat)) (eF : Env) (lF : Lo) (cF : Core) (rest done : List (Nat × Nat)) (env : Env) (lo : Lo) (c : Core) : Prop :=
  ∀ k, denDrw I ops.toList ms rest done env lo c k = k eF lF cF
structure Inv1 (P : Program) (I : FI) (ops : Array Oper) (ms : List (Nat × Nat)) (eF : Env) (lF : Lo) (cF : Core) (i q : Nat) (rest done : List (Nat × Nat)) (env : Env) (lo : Lo) (c : Core) (o : Oper) (gd : Gd) (env1 : Env) (lo1 : Lo) (c1 : Core) : Prop where
  op : ops[i]? = some o
  grd : guardOf ops.toList env o = some gd
  light : q = 0 → lightO o gd env = true
  cat : q = 0 → catO o gd env = true → noS ops.toList env1 done = true
  den : ∀ k, denOp I o gd env lo c k = k env1 lo1 c1
  env : ∀ t, o.dst ≠ some t → getA env1 t = getA env t
  ends : Ends I ops ms eF lF cF rest ((i, q) :: done) env1 lo1 c1
  again : q ≠ 0 → ∀ j, (j, 0) ∈ done → (lookM i ms).testBit j = false → ∃ oj, ops[j]? = some oj ∧ ∀ k, again ops.toList oj env1 lo1 c1 k = k
theorem ends_inv {I : FI} (hfns : FnsOK P I.fns) {ops : Array Oper} {ms : List (Nat × Nat)} {eF : Env} {lF : Lo} {cF : Core} {i q : Nat} {rest done : List (Nat × Nat)} {env : Env} {lo : Lo} {c : Core} (h : Ends I ops ms eF lF cF ((i, q) :: rest) done env lo c) :
    ∃ o gd env1 lo1 c1, Inv1 P I ops ms eF lF cF i q rest done env lo c o gd env1 lo1 c1 := by
  unfold Ends at h
  have hno : ¬ ∀ k, denDrw I ops.toList ms ((i, q) :: rest) done env lo c k = false := fun h' => by
    have := h fun _ _ _ => true
    rw [h'] at this
    cases this
  simp only [denDrw] at h hno
  rw [nthO_eq] at h hno
  have hl : ops.toList[i]? = ops[i]? := Array.getElem?_toList
  rw [hl] at h hno
  cases ho : ops[i]? with
  | none => rw [ho] at hno; exact absurd (fun k => rfl) hno
  | some o =>
    rw [ho] at h hno
    simp only at h hno
    cases hg : guardOf ops.toList env o with
    | none => rw [hg] at hno; exact absurd (fun k => rfl) hno
    | some gd =>
      rw [hg] at h hno
      simp only at h hno
      rcases denOp_env (P := P) (o := o) (I := I) hfns (env := env) (lo := lo) (c := c) (gd := gd) with hd | ⟨env1, lo1, c1, hd, hen⟩
      · refine absurd (fun k => ?_) hno
        match q with
        | 0 =>
          simp only [hd]
          cases lightO o gd env <;> rfl
        | q + 1 => exact hd _
      · match q, h, hno with
        | 0, h, hno =>
          simp only [hd] at h hno
          cases hlt : lightO o gd env with
          | false => rw [hlt] at hno; exact absurd (fun k => rfl) hno
          | true =>
            rw [hlt] at h hno
            cases hcat : (cond (catO o gd env) (noS ops.toList env1 done) true) with
            | false => rw [hcat] at hno; exact absurd (fun k => rfl) hno
            | true =>
              rw [hcat] at h
              exact ⟨o, gd, env1, lo1, c1, ho, hg, fun _ => hlt, fun _ hc => (by rw [hc] at hcat; exact hcat), hd, hen, h, fun hq => absurd rfl hq⟩
        | q + 1, h, hno =>
          simp only [hd] at h hno
          rcases againAll_tri (ops := ops) (lookM i ms) env1 lo1 c1 done with ha | ⟨ha, hb⟩
          · exact absurd (fun k => ha _) hno
          · exact ⟨o, gd, env1, lo1, c1, ho, hg, (fun hq => by cases hq), (fun hq => by cases hq), hd, hen, fun k => (ha _).symm.trans (h k), fun _ => hb⟩
theorem noS_mem {ops : Array Oper} {env : Env} : ∀ {l : List (Nat × Nat)}, noS ops.toList env l = true → ∀ j q, (j, q) ∈ l → ∃ o gd, ops[j]? = some o ∧ guardOf ops.toList env o = some gd ∧ strO o (genv gd env) = false
  | [], _, j, q, h => by cases h
  | (a, b) :: l, hn, j, q, h => by
    simp only [noS, nthO_eq] at hn
    have hl : ops.toList[a]? = ops[a]? := Array.getElem?_toList
    rw [hl] at hn
    cases ho : ops[a]? with
    | none => rw [ho] at hn; cases hn
    | some o =>
    rw [ho] at hn
    simp only at hn
    cases hg : guardOf ops.toList env o with
    | none => rw [hg] at hn; cases hn
    | some gd =>
    rw [hg] at hn
    simp only at hn
    cases hs : strO o (genv gd env) with
    | true => rw [hs] at hn; cases hn
    | false =>
    rw [hs, cond_false] at hn
    rcases List.mem_cons.1 h with h | h
    · injection h with e1 e2
      subst e1 e2
      exact ⟨o, gd, ho, hg, hs⟩
    · exact noS_mem hn j q h
end Go.Proofs.YtaekfgbfpfecdaaGreat.VM

/- Regions whose order is drawn: what holds on the way; no conditions but those that each theorem names. -/
namespace Go.Proofs.YtaekfgbfpfecdaaGreat.VM
open Go
set_option linter.unusedVariables false
set_option linter.unusedSimpArgs false
variable {P : Program} [Df]
set_option linter.unusedSectionVars false

/-- Listed. -/
def Ls (S : Array Bool) (j : Nat) : Prop := S.getD j false = true
/-- The blocks that are not to be touched. -/
def Gx (G : Nat → Prop) (rest : List (Nat × Nat)) (S : Array Bool) (bk : Nat → Nat) (g : Nat) : Prop := G g ∨ ∃ j, (j, 2) ∈ rest ∧ Ls S j ∧ bk j = g
/-- What holds on the way through a region. -/
structure Way (P : Program) (I : FI) (ops : Array Oper) (ms : List (Nat × Nat)) (eF : Env) (lF : Lo) (cF : Core) (G : Nat → Prop) (N0 : Nm) (w0 : World)
    (rest done : List (Nat × Nat)) (dm : Nat) (env : Env) (lo : Lo) (c : Core) (S : Array Bool) (bk : Nat → Nat) (a ap : Act) (w : World) (N : Nm) (lam : Nat → Nat) : Prop where
  size : S.size = ops.size
  dmk : ∀ i, dm.testBit i = true ↔ ∃ q, (i, q) ∈ done
  chk : drwOk I ops ms rest dm = true
  ends : Ends I ops ms eF lF cF rest done env lo c
  closed : ∀ j i, Ls S j → Dep ops j i → Ls S i
  lst : ∀ j, Ls S j → (∃ q, (j, q) ∈ done) ∨ (j, 2) ∈ rest
  late : ∀ j q, (j, q) ∈ done → ¬ Ls S j → q = 0 ∧ ∃ o, ops[j]? = some o ∧ (∀ cs b, o.op ≠ .select cs b) ∧ LateOK N ops o env lo c
  topo : ∀ j q, (j, q) ∈ done → ∀ i, Dep ops j i → ∃ q', (i, q') ∈ done
  fresh : ∀ j q, (j, q) ∈ done → Fresh ops j q
  ok : OK I.nt (Gx G rest S bk) N lam env lo c ap w
  ext : Ext N0 N
  same : Same G w0 w
  big : w0.heap.size ≤ w.heap.size
  ing : In G w0
  early : ∀ j, (j, 2) ∈ rest → Ls S j → w0.heap.size ≤ bk j ∧ ∃ o d cells ty v, ops[j]? = some o ∧ o.dst = some d ∧ Makes P o a cells ty v ∧ w.heap[bk j]? = some (.cells cells ty (0, 0)) ∧ a.tmps[d]? = some (v (bk j))
  inj : ∀ j j', (j, 2) ∈ rest → Ls S j → (j', 2) ∈ rest → Ls S j' → bk j = bk j' → j = j'
  dfs : a.defers = ap.defers
  tms : a.tmps.size = ap.tmps.size
  agree : ∀ s, (∀ j o, ops[j]? = some o → o.dst = some s → (Ls S j ↔ ∃ q, (j, q) ∈ done)) → a.tmps[s]? = ap.tmps[s]?

theorem dep_direct {ops : Array Oper} {j i : Nat} (h : Dep ops j i) : ∃ o e, ops[j]? = some o ∧ e ∈ o.after ∧ Region.binds .any e = true ∧ (e.on = i ∨ Dep ops e.on i) := by
  induction h with
  | @direct j o e ho he hb => exact ⟨o, e, ho, he, hb, .inl rfl⟩
  | trans _ h2 ih1 _ =>
    obtain ⟨o, e, ho, he, hb, h⟩ := ih1
    rcases h with h | h
    · exact ⟨o, e, ho, he, hb, .inr (h ▸ h2)⟩
    · exact ⟨o, e, ho, he, hb, .inr (h.trans h2)⟩
/-- What an operation hangs on is done when it comes. -/
theorem Way.deps {I : FI} {ops : Array Oper} {ms : List (Nat × Nat)} {eF : Env} {lF : Lo} {cF : Core} {G : Nat → Prop} {N0 : Nm} {w0 : World} {rest done : List (Nat × Nat)} {dm : Nat} {env : Env} {lo : Lo} {c : Core} {S : Array Bool} {bk : Nat → Nat} {a ap : Act} {w : World} {N : Nm} {lam : Nat → Nat}
    {i q : Nat} {o : Oper} (h : Way P I ops ms eF lF cF G N0 w0 ((i, q) :: rest) done dm env lo c S bk a ap w N lam) (hs : Step I ops i q rest dm o) : ∀ m, Dep ops i m → ∃ q', (m, q') ∈ done := by
  intro m hm
  obtain ⟨o', e, ho, he, hb, h1⟩ := dep_direct hm
  rw [hs.op] at ho
  cases ho
  obtain ⟨q', hq⟩ := (h.dmk _).1 (hs.topo e he hb)
  rcases h1 with rfl | h1
  · exact ⟨q', hq⟩
  · exact h.topo _ _ hq _ h1
end Go.Proofs.YtaekfgbfpfecdaaGreat.VM

/- The machine goes on alone over a light operation; no conditions but those that each theorem names. -/
namespace Go.Proofs.YtaekfgbfpfecdaaGreat.VM
open Go
set_option linter.unusedVariables false
set_option linter.unusedSimpArgs false
variable {P : Program} [Df]
set_option linter.unusedSectionVars false

theorem one_end {e e' : Env} {l l' : Lo} {c c' : Core} (h : ∀ k : Env → Lo → Core → Bool, k e l c = k e' l' c') : e = e' ∧ l = l' ∧ c = c' := by
  have := h fun x y z => @decide (e = x ∧ l = y ∧ c = z) (Classical.propDecidable _)
  have h2 : @decide (e = e ∧ l = l ∧ c = c) (Classical.propDecidable _) = true := @decide_eq_true _ (Classical.propDecidable _) ⟨rfl, rfl, rfl⟩
  exact @of_decide_eq_true _ (Classical.propDecidable _) (this.symm.trans h2)
theorem OK.less {nt : Nat} {G G' : Nat → Prop} {N : Nm} {lam : Nat → Nat} {env : Env} {lo : Lo} {c : Core} {a : Act} {w : World} (h : OK nt G N lam env lo c a w) (hg : ∀ g, G' g → G g) : OK nt G' N lam env lo c a w :=
  ⟨h.re, h.rel, h.pools, fun g b o k mo sp hx hb => h.off g b o k mo sp (hg g hx) hb, fun g hx => h.ing g (hg g hx), fun i e hi hx => h.prot i e hi (hg _ hx), h.nt, h.df⟩
theorem mem_skip {j i q : Nat} {rest : List (Nat × Nat)} (hq : q ≠ 2) : (j, 2) ∈ (i, q) :: rest ↔ (j, 2) ∈ rest := by
  constructor
  · intro h
    rcases List.mem_cons.1 h with h | h
    · injection h with _ e; exact absurd e.symm hq
    · exact h
  · exact List.mem_cons_of_mem _
theorem Way.light (hF : Facts P) {I : FI} (hfns : FnsOK P I.fns) {ops : Array Oper} {ms : List (Nat × Nat)} (hms : ∀ j i, (lookM j ms).testBit i = true → Dep ops j i) {eF : Env} {lF : Lo} {cF : Core} {G : Nat → Prop} {N0 : Nm} {w0 : World} {rest done : List (Nat × Nat)} {dm : Nat} {env : Env} {lo : Lo} {c : Core} {S : Array Bool} {bk : Nat → Nat} {a ap : Act} {w : World} {N : Nm} {lam : Nat → Nat}
    {i : Nat} (h : Way P I ops ms eF lF cF G N0 w0 ((i, 0) :: rest) done dm env lo c S bk a ap w N lam) (hnl : ¬ Ls S i) :
    ∃ dm' env' c' ap' N', Way P I ops ms eF lF cF G N0 w0 rest ((i, 0) :: done) dm' env' lo c' S bk a ap' w N' lam := by
  obtain ⟨o, hs, hchk⟩ := drwOk_step hms h.chk
  obtain ⟨o', gd, env1, lo1, c1, hi⟩ := ends_inv (P := P) hfns h.ends
  have := hi.op
  rw [hs.op] at this
  cases this
  have hnd : ¬ ∃ q, (i, q) ∈ done := fun hq => by
    have := (h.dmk i).2 hq
    rw [hs.new] at this
    cases this
  have hself : ∀ d, o.dst = some d → d ∉ o.looksAt ops := fun d hd => hs.fresh.self (by decide) o d hs.op hd
  rcases light_alone (P := P) (lo := lo) (c := c) hF hi.grd (hi.light rfl) hself with hno | ⟨env', c', hd, hoth, hmd, hsame, hok⟩
  · have h1 := hi.den fun _ _ _ => true
    rw [hno] at h1
    cases h1
  obtain ⟨e1, e2, e3⟩ := one_end fun k => (hi.den k).symm.trans (hd k)
  subst e1 e2 e3
  obtain ⟨v, N', hext, hok', hlate⟩ := hok _ _ _ _ _ h.ok
  have hap : ∀ j q oj, (j, q) ∈ done → ops[j]? = some oj → ∀ d, o.dst = some d → Apart ops d oj := by
    intro j q oj hj hoj d hdd
    rcases hs.fresh.light (by decide) o d hs.op hdd j oj hoj (fun e => hnd ⟨q, e ▸ hj⟩) with hdep | hap
    · exact absurd (h.topo j q hj i hdep) hnd
    · exact hap
  refine ⟨_, env1, c1, ap.put o.dst v, N', ⟨h.size, fun j => ?_, hchk, hi.ends, h.closed, fun j hj => ?_, fun j q hj hnj => ?_, fun j q hj m hm => ?_, fun j q hj => ?_, hok'.less fun g hg => ?_, h.ext.trans hext, h.same, h.big, h.ing,
    fun j hj => h.early j (List.mem_cons_of_mem _ hj), fun j j' hj h1 hj' => h.inj j j' (List.mem_cons_of_mem _ hj) h1 (List.mem_cons_of_mem _ hj'), ?_, ?_, fun s hw => ?_⟩⟩
  · rw [testBit_or', testBit_one_shl, Bool.or_eq_true, decide_eq_true_eq, h.dmk]
    constructor
    · rintro (⟨q, hq⟩ | rfl)
      · exact ⟨q, List.mem_cons_of_mem _ hq⟩
      · exact ⟨0, List.mem_cons_self⟩
    · rintro ⟨q, hq⟩
      rcases List.mem_cons.1 hq with hq | hq
      · injection hq with e _; exact .inr e.symm
      · exact .inl ⟨q, hq⟩
  · rcases h.lst j hj with ⟨q, hq⟩ | hq
    · exact .inl ⟨q, List.mem_cons_of_mem _ hq⟩
    · exact .inr ((mem_skip (by decide)).1 hq)
  · rcases List.mem_cons.1 hj with hj | hj
    · injection hj with e1 e2
      subst e1 e2
      exact ⟨rfl, o, hs.op, hs.sel, hlate⟩
    · obtain ⟨hq, oj, hoj, hsel, hl⟩ := h.late j q hj hnj
      refine ⟨hq, oj, hoj, hsel, hl.step hext (fun t ht => hi.env t fun hdt => (hap j q oj hj hoj t hdt).1 ht) (fun d hd => hi.env d fun hdt => (hap j q oj hj hoj d hdt).2 hd) ?_⟩
      cases hcat : catO o gd env with
      | false => exact .inl (hsame hcat)
      | true =>
        refine .inr ⟨hmd.1, hmd.2, fun gd' hgd' => ?_⟩
        obtain ⟨o2, gd2, h1, h2, h3⟩ := noS_mem (hi.cat rfl hcat) j q hj
        rw [hoj] at h1
        cases h1
        rw [hgd'] at h2
        cases h2
        exact h3
  · rcases List.mem_cons.1 hj with hj | hj
    · injection hj with e1 e2
      subst e1 e2
      obtain ⟨q', hq'⟩ := h.deps hs m hm
      exact ⟨q', List.mem_cons_of_mem _ hq'⟩
    · obtain ⟨q', hq'⟩ := h.topo j q hj m hm
      exact ⟨q', List.mem_cons_of_mem _ hq'⟩
  · rcases List.mem_cons.1 hj with hj | hj
    · injection hj with e1 e2
      subst e1 e2
      exact hs.fresh
    · exact h.fresh j q hj
  · rcases hg with hg | ⟨j, hj, h1, h2⟩
    · exact .inl hg
    · exact .inr ⟨j, List.mem_cons_of_mem _ hj, h1, h2⟩
  · rw [h.dfs]; cases o.dst <;> rfl
  · rw [h.tms]; cases o.dst <;> simp [Act.put]
  · have hne : o.dst ≠ some s := fun hd => hnl ((hw i o hs.op hd).2 ⟨0, List.mem_cons_self⟩)
    have h1 := h.agree s fun j oj hoj hds => by
      rw [hw j oj hoj hds]
      constructor
      · rintro ⟨q, hq⟩
        rcases List.mem_cons.1 hq with hq | hq
        · injection hq with e1 _
          subst e1
          rw [hs.op] at hoj
          cases hoj
          exact absurd hds hne
        · exact ⟨q, hq⟩
      · rintro ⟨q, hq⟩
        exact ⟨q, List.mem_cons_of_mem _ hq⟩
    rw [h1]
    cases hd : o.dst with
    | none => rfl
    | some d =>
      rw [put_get, if_neg]
      rintro ⟨rfl, _⟩
      exact hne hd
end Go.Proofs.YtaekfgbfpfecdaaGreat.VM

/- The real act and the machine's agree where an operation looks; no conditions but those that each theorem names. -/
namespace Go.Proofs.YtaekfgbfpfecdaaGreat.VM
open Go
set_option linter.unusedVariables false
set_option linter.unusedSimpArgs false
variable {P : Program} [Df]
set_option linter.unusedSectionVars false

theorem drwOk_new {I : FI} {ops : Array Oper} {ms : List (Nat × Nat)} (hms : ∀ j i, (lookM j ms).testBit i = true → Dep ops j i) : ∀ {l : List (Nat × Nat)} {dm : Nat}, drwOk I ops ms l dm = true → ∀ i q, (i, q) ∈ l → dm.testBit i = false
  | [], dm, _, i, q, h => by cases h
  | (a, b) :: l, dm, hk, i, q, h => by
    obtain ⟨o, hs, h2⟩ := drwOk_step hms hk
    rcases List.mem_cons.1 h with h | h
    · injection h with e1 e2
      subst e1 e2
      exact hs.new
    · have := drwOk_new hms h2 i q h
      rw [testBit_or', Bool.or_eq_false_iff] at this
      exact this.1
theorem drwOk_head {I : FI} {ops : Array Oper} {ms : List (Nat × Nat)} (hms : ∀ j i, (lookM j ms).testBit i = true → Dep ops j i) {l : List (Nat × Nat)} {dm i q : Nat} (h : drwOk I ops ms ((i, q) :: l) dm = true) : ∀ q', (i, q') ∉ l := by
  intro q' hq
  obtain ⟨o, hs, h2⟩ := drwOk_step hms h
  have := drwOk_new hms h2 i q' hq
  rw [testBit_or', testBit_one_shl, Bool.or_eq_false_iff] at this
  simp at this
theorem fresh_rest {I : FI} {ops : Array Oper} {ms : List (Nat × Nat)} (hms : ∀ j i, (lookM j ms).testBit i = true → Dep ops j i) : ∀ {l : List (Nat × Nat)} {dm : Nat}, drwOk I ops ms l dm = true → ∀ i q, (i, q) ∈ l → Fresh ops i q
  | [], dm, _, i, q, h => by cases h
  | (a, b) :: l, dm, hk, i, q, h => by
    obtain ⟨o, hs, h2⟩ := drwOk_step hms hk
    rcases List.mem_cons.1 h with h | h
    · injection h with e1 e2
      subst e1 e2
      exact hs.fresh
    · exact fresh_rest hms h2 i q h

section
variable {I : FI} {ops : Array Oper} {ms : List (Nat × Nat)} {eF : Env} {lF : Lo} {cF : Core} {G : Nat → Prop} {N0 : Nm} {w0 : World} {rest done : List (Nat × Nat)} {dm : Nat} {env : Env} {lo : Lo} {c : Core} {S : Array Bool} {bk : Nat → Nat} {a ap : Act} {w : World} {N : Nm} {lam : Nat → Nat}
theorem Way.agree_at (hms : ∀ j i, (lookM j ms).testBit i = true → Dep ops j i) (h : Way P I ops ms eF lF cF G N0 w0 rest done dm env lo c S bk a ap w N lam) {i : Nat} {o : Oper} (ho : ops[i]? = some o)
    (hd : ∀ m, Dep ops i m → Ls S m ∧ ∃ q, (m, q) ∈ done) (hown : ∀ t ∈ o.looksAt ops, o.dst = some t → (Ls S i ↔ ∃ q, (i, q) ∈ done)) : Agree (o.looksAt ops) a ap := by
  intro t ht
  refine h.agree t fun j oj hoj hjt => ?_
  by_cases hji : j = i
  · subst hji
    rw [ho] at hoj
    cases hoj
    exact hown t ht hjt
  have byDep : Dep ops i j → (Ls S j ↔ ∃ q, (j, q) ∈ done) := fun hdep => ⟨fun _ => (hd j hdep).2, fun _ => (hd j hdep).1⟩
  have hjs : j < ops.size := (Array.getElem?_eq_some_iff.1 hoj).1
  have key : ∀ q, Fresh ops j q → q ≠ 1 → Dep ops i j := by
    intro q hf hq
    rcases hf.light hq oj t hoj hjt i o ho (Ne.symm hji) with hdep | hap
    · exact hdep
    · exact absurd ht hap.1
  rcases drwOk_all hms h.chk j hjs with hb | ⟨q, hq⟩
  · obtain ⟨q, hq⟩ := (h.dmk j).1 hb
    by_cases hq1 : q = 1
    · refine ⟨fun _ => ⟨q, hq⟩, fun _ => ?_⟩
      refine Classical.byContradiction fun hn => ?_
      have := (h.late j q hq hn).1
      omega
    · exact byDep (key q (h.fresh j q hq) hq1)
  · have hnd : ¬ ∃ q, (j, q) ∈ done := fun hx => by
      have h1 := (h.dmk j).2 hx
      rw [drwOk_new hms h.chk j q hq] at h1
      cases h1
    refine ⟨fun hl => ?_, fun hx => absurd hx hnd⟩
    rcases h.lst j hl with hx | hx
    · exact hx
    · exact (hd j (key 2 (fresh_rest hms h.chk j 2 hx) (by decide))).2
end
end Go.Proofs.YtaekfgbfpfecdaaGreat.VM

/- The machine comes to a block that was made early; no conditions but those that each theorem names. -/
namespace Go.Proofs.YtaekfgbfpfecdaaGreat.VM
open Go
set_option linter.unusedVariables false
set_option linter.unusedSimpArgs false
variable {P : Program} [Df]
set_option linter.unusedSectionVars false
section
variable {I : FI} {ops : Array Oper} {ms : List (Nat × Nat)} {eF : Env} {lF : Lo} {cF : Core} {G : Nat → Prop} {N0 : Nm} {w0 : World} {rest done : List (Nat × Nat)} {dm : Nat} {env : Env} {lo : Lo} {c : Core} {S : Array Bool} {bk : Nat → Nat} {a ap : Act} {w : World} {N : Nm} {lam : Nat → Nat}

/-- After the machine's step over a head that is listed: what is late is still right. -/
theorem Way.late_again {N' : Nm} (hN : Ext N N') {i q : Nat} (hms : ∀ j i, (lookM j ms).testBit i = true → Dep ops j i) (h : Way P I ops ms eF lF cF G N0 w0 ((i, q) :: rest) done dm env lo c S bk a ap w N lam) {o : Oper} (hs : Step I ops i q rest dm o) {gd : Gd} {env1 : Env} {lo1 : Lo} {c1 : Core}
    (hi : Inv1 P I ops ms eF lF cF i q rest done env lo c o gd env1 lo1 c1) (hq : q ≠ 0) (hdep : ∀ m, Dep ops i m → Ls S m) : ∀ j q', (j, q') ∈ done → ¬ Ls S j → q' = 0 ∧ ∃ o, ops[j]? = some o ∧ (∀ cs b, o.op ≠ .select cs b) ∧ LateOK N' ops o env1 lo1 c1 := by
  have hnd : ¬ ∃ q, (i, q) ∈ done := fun hx => by
    have := (h.dmk i).2 hx
    rw [hs.new] at this
    cases this
  intro j q' hj hnj
  obtain ⟨hq0, oj, hoj, hsel, hl⟩ := h.late j q' hj hnj
  subst hq0
  refine ⟨rfl, oj, hoj, hsel, ?_⟩
  have hbit : (lookM i ms).testBit j = false := by
    cases hb : (lookM i ms).testBit j
    · rfl
    · exact absurd (hdep j (hms _ _ hb)) hnj
  obtain ⟨oj', hoj', hag⟩ := hi.again hq j hj hbit
  rw [hoj] at hoj'
  cases hoj'
  have hap : ∀ d, o.dst = some d → Apart ops d oj := by
    intro d hdd
    rcases hs.fresh.hard o d hs.op hdd j oj hoj (fun e => hnd ⟨0, e ▸ hj⟩) with h1 | h1 | h1
    · exact absurd (h.topo j 0 hj i h1) hnd
    · exact absurd (hdep j h1) hnj
    · exact h1
  rcases again_ok hN (lo' := lo1) (c' := c1) hl (fun t ht => hi.env t fun hdt => (hap t hdt).1 ht) (fun d hd => hi.env d fun hdt => (hap d hdt).2 hd) with hno | ⟨_, hok⟩
  · have := hno true
    rw [hag] at this
    cases this
  · exact hok
/-- The bits of what is done. -/
theorem Way.bits {i q : Nat} (h : Way P I ops ms eF lF cF G N0 w0 ((i, q) :: rest) done dm env lo c S bk a ap w N lam) (j : Nat) : (Nat.lor dm (Nat.shiftLeft 1 i)).testBit j = true ↔ ∃ q', (j, q') ∈ (i, q) :: done := by
  rw [testBit_or', testBit_one_shl, Bool.or_eq_true, decide_eq_true_eq, h.dmk]
  constructor
  · rintro (⟨q', hq⟩ | rfl)
    · exact ⟨q', List.mem_cons_of_mem _ hq⟩
    · exact ⟨q, List.mem_cons_self⟩
  · rintro ⟨q', hq⟩
    rcases List.mem_cons.1 hq with hq | hq
    · injection hq with e _; exact .inr e.symm
    · exact .inl ⟨q', hq⟩
theorem Way.topo' {i q : Nat} (h : Way P I ops ms eF lF cF G N0 w0 ((i, q) :: rest) done dm env lo c S bk a ap w N lam) {o : Oper} (hs : Step I ops i q rest dm o) : ∀ j q', (j, q') ∈ (i, q) :: done → ∀ m, Dep ops j m → ∃ q'', (m, q'') ∈ (i, q) :: done := by
  intro j q' hj m hm
  rcases List.mem_cons.1 hj with hj | hj
  · injection hj with e1 e2
    subst e1 e2
    obtain ⟨q'', hq⟩ := h.deps hs m hm
    exact ⟨q'', List.mem_cons_of_mem _ hq⟩
  · obtain ⟨q'', hq⟩ := h.topo j q' hj m hm
    exact ⟨q'', List.mem_cons_of_mem _ hq⟩
theorem Way.fresh' {i q : Nat} (h : Way P I ops ms eF lF cF G N0 w0 ((i, q) :: rest) done dm env lo c S bk a ap w N lam) {o : Oper} (hs : Step I ops i q rest dm o) : ∀ j q', (j, q') ∈ (i, q) :: done → Fresh ops j q' := by
  intro j q' hj
  rcases List.mem_cons.1 hj with hj | hj
  · injection hj with e1 e2
    subst e1 e2
    exact hs.fresh
  · exact h.fresh j q' hj
end
end Go.Proofs.YtaekfgbfpfecdaaGreat.VM

/- The machine comes to a block that was made early; no conditions but those that each theorem names. -/
namespace Go.Proofs.YtaekfgbfpfecdaaGreat.VM
open Go
set_option linter.unusedVariables false
set_option linter.unusedSimpArgs false
variable {P : Program} [Df]
set_option linter.unusedSectionVars false
section
variable {I : FI} {ops : Array Oper} {ms : List (Nat × Nat)} {eF : Env} {lF : Lo} {cF : Core} {G : Nat → Prop} {N0 : Nm} {w0 : World} {rest done : List (Nat × Nat)} {dm : Nat} {env : Env} {lo : Lo} {c : Core} {S : Array Bool} {bk : Nat → Nat} {a ap : Act} {w : World} {N : Nm} {lam : Nat → Nat}

theorem Way.name (hF : Facts P) (hfns : FnsOK P I.fns) {i : Nat} (hms : ∀ j i, (lookM j ms).testBit i = true → Dep ops j i) (h : Way P I ops ms eF lF cF G N0 w0 ((i, 2) :: rest) done dm env lo c S bk a ap w N lam) (hl : Ls S i) :
    ∃ dm' env' lo' ap' lam', Way P I ops ms eF lF cF G N0 w0 rest ((i, 2) :: done) dm' env' lo' c S bk a ap' w N lam' := by
  obtain ⟨o, hs, hchk⟩ := drwOk_step hms h.chk
  have hhead := drwOk_head hms h.chk
  obtain ⟨o', gd, env1, lo1, c1, hi⟩ := ends_inv (P := P) hfns h.ends
  have := hi.op
  rw [hs.op] at this
  cases this
  have hA := hs.early (by decide) (by decide)
  have hgd : gd = none := by
    have hg : o.guard = none := by
      unfold isAI at hA
      split at hA
      · next hg _ => exact hg
      · cases hA
    exact gd_none hg hi.grd
  subst hgd
  obtain ⟨hbig, o2, d, cells, ty, v, ho2, hd, hm, hw, hv⟩ := h.early i List.mem_cons_self hl
  rw [hs.op] at ho2
  cases ho2
  have hdep : ∀ m, Dep ops i m → Ls S m := fun m hm => h.closed i m hl hm
  have hag := h.agree_at hms hs.op (fun m hm => ⟨hdep m hm, h.deps hs m hm⟩) (fun t ht hdt => absurd ht (hs.fresh.self (by decide) o t hs.op hdt))
  rcases early_name (P := P) (lo := lo) (c := c) (env := env) hF hA with hno | ⟨env', lo', d', hd', hden, hok⟩
  · have h1 := hi.den fun _ _ _ => true
    rw [hno] at h1
    cases h1
  rw [hd] at hd'
  cases hd'
  obtain ⟨e1, e2, e3⟩ := one_end fun k => (hi.den k).symm.trans (hden k)
  subst e1 e2 e3
  have hm' : Makes P o ap cells ty v := ⟨fun w1 => by rw [← hag.exec hs.sel]; exact hm.run w1⟩
  have hok' := hok (Gx G rest S bk) (Gx G ((i, 2) :: rest) S bk) N lam ap w h.ok cells ty v (bk i) hm' hw (.inr ⟨i, List.mem_cons_self, hl, rfl⟩) (fun x hx => by
    rcases hx with hx | ⟨j, hj, h1, rfl⟩
    · refine ⟨.inl hx, fun e => ?_⟩
      have := h.ing x hx
      omega
    · refine ⟨.inr ⟨j, List.mem_cons_of_mem _ hj, h1, rfl⟩, fun e => ?_⟩
      have := h.inj j i (List.mem_cons_of_mem _ hj) h1 List.mem_cons_self hl e
      subst this
      exact hhead 2 hj)
  refine ⟨_, env1, lo1, _, _, ⟨h.size, h.bits, hchk, hi.ends, h.closed, fun j hj => ?_, fun j q hj hnj => ?_, h.topo' hs, h.fresh' hs, hok', h.ext, h.same, h.big, h.ing,
    fun j hj => h.early j (List.mem_cons_of_mem _ hj), fun j j' hj h1 hj' => h.inj j j' (List.mem_cons_of_mem _ hj) h1 (List.mem_cons_of_mem _ hj'), h.dfs, by rw [h.tms]; simp [Act.put], fun s hws => ?_⟩⟩
  · rcases h.lst j hj with ⟨q, hq⟩ | hq
    · exact .inl ⟨q, List.mem_cons_of_mem _ hq⟩
    · rcases List.mem_cons.1 hq with hq | hq
      · injection hq with e1 _
        subst e1
        exact .inl ⟨2, List.mem_cons_self⟩
      · exact .inr hq
  · rcases List.mem_cons.1 hj with hj | hj
    · injection hj with e1 _
      subst e1
      exact absurd hl hnj
    · exact h.late_again (Ext.refl N) hms hs hi (by decide) hdep j q hj hnj
  · by_cases hsd : d = s
    · subst hsd
      have hlt : d < ap.tmps.size := by
        rw [← h.tms]
        exact (Array.getElem?_eq_some_iff.1 hv).1
      rw [put_get, if_pos ⟨rfl, hlt⟩]
      exact hv
    · rw [put_get, if_neg (fun e => hsd e.1)]
      refine h.agree s fun j oj hoj hds => ?_
      rw [hws j oj hoj hds]
      constructor
      · rintro ⟨q, hq⟩
        rcases List.mem_cons.1 hq with hq | hq
        · injection hq with e1 _
          subst e1
          rw [hs.op] at hoj
          cases hoj
          rw [hd] at hds
          injection hds with hds
          exact absurd hds hsd
        · exact ⟨q, hq⟩
      · rintro ⟨q, hq⟩
        exact ⟨q, List.mem_cons_of_mem _ hq⟩
end
end Go.Proofs.YtaekfgbfpfecdaaGreat.VM

/- A light operation that comes late is run; no conditions but those that each theorem names. -/
namespace Go.Proofs.YtaekfgbfpfecdaaGreat.VM
open Go
set_option linter.unusedVariables false
set_option linter.unusedSimpArgs false
variable {P : Program} [Df]
set_option linter.unusedSectionVars false
theorem early_isAI {I : FI} {ops : Array Oper} {ms : List (Nat × Nat)} (hms : ∀ j i, (lookM j ms).testBit i = true → Dep ops j i) : ∀ {l : List (Nat × Nat)} {dm : Nat}, drwOk I ops ms l dm = true → ∀ {i : Nat}, (i, 2) ∈ l → ∃ o, ops[i]? = some o ∧ isAI I o = true
  | [], dm, _, i, h => by cases h
  | (a, b) :: l, dm, hk, i, h => by
    obtain ⟨o, hs, h2⟩ := drwOk_step hms hk
    rcases List.mem_cons.1 h with h | h
    · injection h with e1 e2
      subst e1 e2
      exact ⟨o, hs.op, hs.early (by decide) (by decide)⟩
    · exact early_isAI hms h2 h
theorem Ls_set {S : Array Bool} {j m : Nat} (hj : j < S.size) : Ls (S.setIfInBounds j true) m ↔ Ls S m ∨ m = j := by
  unfold Ls
  by_cases h : j = m
  · subst h
    simp [hj]
  · have h' : m ≠ j := Ne.symm h
    rw [getD_set_ne false h]
    simp [h']
section
variable {I : FI} {ops : Array Oper} {ms : List (Nat × Nat)} {eF : Env} {lF : Lo} {cF : Core} {G : Nat → Prop} {N0 : Nm} {w0 : World} {rest done : List (Nat × Nat)} {dm : Nat} {env : Env} {lo : Lo} {c : Core} {S : Array Bool} {bk : Nat → Nat} {a ap : Act} {w : World} {N : Nm} {lam : Nat → Nat}
theorem Way.ran (hms : ∀ j i, (lookM j ms).testBit i = true → Dep ops j i) (h : Way P I ops ms eF lF cF G N0 w0 rest done dm env lo c S bk a ap w N lam) {j : Nat} {o : Oper} (ho : ops[j]? = some o) (hj : (j, 0) ∈ done) (hn : ¬ Ls S j) (hdep : ∀ m, Dep ops j m → Ls S m)
    {v : Value} (hok : OK I.nt (Gx G rest S bk) N lam env lo c (ap.put o.dst v) w) : Way P I ops ms eF lF cF G N0 w0 rest done dm env lo c (S.setIfInBounds j true) bk (a.put o.dst v) (ap.put o.dst v) w N lam := by
  have hjs : j < S.size := by rw [h.size]; exact (Array.getElem?_eq_some_iff.1 ho).1
  have hls := fun m => Ls_set (m := m) hjs
  have hbit := (h.dmk j).2 ⟨0, hj⟩
  have hrest : ∀ x q, (x, q) ∈ rest → x ≠ j := fun x q hx e => by
    subst e
    rw [drwOk_new hms h.chk x q hx] at hbit
    cases hbit
  have hls2 : ∀ x, (x, 2) ∈ rest → Ls (S.setIfInBounds j true) x → Ls S x := fun x hx hl => ((hls x).1 hl).resolve_right (hrest x 2 hx)
  have hfr := h.fresh j 0 hj
  refine ⟨by simp [h.size], h.dmk, h.chk, h.ends, fun x y hx hxy => ?_, fun x hx => ?_, fun x q hx hnx => ?_, h.topo, h.fresh, hok.less fun g hg => ?_, h.ext, h.same, h.big, h.ing, fun x hx hl => ?_,
    fun x y hx h1 hy h2 => h.inj x y hx (hls2 x hx h1) hy (hls2 y hy h2), ?_, ?_, fun s hw => ?_⟩
  · rw [hls] at hx ⊢
    rcases hx with hx | rfl
    · exact .inl (h.closed x y hx hxy)
    · exact .inl (hdep y hxy)
  · rcases (hls x).1 hx with hx | rfl
    · exact h.lst x hx
    · exact .inl ⟨0, hj⟩
  · exact h.late x q hx fun hl => hnx ((hls x).2 (.inl hl))
  · rcases hg with hg | ⟨x, hx, h1, h2⟩
    · exact .inl hg
    · exact .inr ⟨x, hx, hls2 x hx h1, h2⟩
  · have hlx := hls2 x hx hl
    obtain ⟨hb, ox, d, cells, ty, u, hox, hd, hm, hw, hv⟩ := h.early x hx hlx
    have hap : ∀ d', o.dst = some d' → Apart ops d' ox := fun d' hd' => by
      rcases hfr.light (by decide) o d' ho hd' x ox hox (hrest x 2 hx) with h1 | h1
      · exact absurd (h.closed x j hlx h1) hn
      · exact h1
    refine ⟨hb, ox, d, cells, ty, u, hox, hd, ⟨fun w1 => ?_⟩, hw, ?_⟩
    · rw [← hm.run w1]
      have : Agree (ox.looksAt ops) (a.put o.dst v) a := fun t ht => by
        cases hdo : o.dst with
        | none => rfl
        | some d' =>
          rw [put_get, if_neg]
          rintro ⟨rfl, _⟩
          exact (hap _ hdo).1 ht
      have hsel : ∀ cs b, ox.op ≠ .select cs b := fun cs b e => by
        have := hm.run w1
        have h3 : isAI I ox = true → False := fun hA => by
          unfold isAI at hA
          rw [e] at hA
          split at hA <;> cases hA
        obtain ⟨o3, hs3⟩ : ∃ o3, ops[x]? = some o3 ∧ isAI I o3 = true := early_isAI hms h.chk hx
        rw [hox] at hs3
        cases hs3.1
        exact h3 hs3.2
      rw [this.exec hsel]
    · cases hdo : o.dst with
      | none => exact hv
      | some d' =>
        rw [put_get, if_neg]
        · exact hv
        · rintro ⟨rfl, _⟩
          exact (hap _ hdo).2 hd
  · cases o.dst <;> exact h.dfs
  · cases o.dst <;> simp [Act.put, h.tms]
  · by_cases hds : o.dst = some s
    · rw [hds, put_get, put_get, h.tms]
      split
      · rfl
      · next hq =>
        have : ¬ s < ap.tmps.size := fun e => hq ⟨rfl, e⟩
        rw [Array.getElem?_eq_none (by rw [h.tms]; omega), Array.getElem?_eq_none (by omega)]
    · have h1 := h.agree s fun x ox hox hx => by
        rw [← hw x ox hox hx, hls]
        constructor
        · exact .inl
        · rintro (hx' | rfl)
          · exact hx'
          · rw [ho] at hox
            cases hox
            exact absurd hx hds
      cases hdo : o.dst with
      | none => exact h1
      | some d =>
        have hne : ¬ (d = s) := fun e => hds (by rw [hdo, e])
        rw [put_get, put_get, if_neg (fun e => hne e.1), if_neg (fun e => hne e.1)]
        exact h1
end
end Go.Proofs.YtaekfgbfpfecdaaGreat.VM

/- A light operation that comes late is run, in the middle of a region; no conditions but those that each theorem names. -/
namespace Go.Proofs.YtaekfgbfpfecdaaGreat.VM
open Go
set_option linter.unusedVariables false
set_option linter.unusedSimpArgs false
variable {P : Program} [Df]
set_option linter.unusedSectionVars false
section
variable {I : FI} {ops : Array Oper} {ms : List (Nat × Nat)} {eF : Env} {lF : Lo} {cF : Core} {G : Nat → Prop} {N0 : Nm} {w0 : World} {rest done : List (Nat × Nat)} {dm : Nat} {env : Env} {lo : Lo} {c : Core} {S : Array Bool} {bk : Nat → Nat} {a ap : Act} {w : World} {N : Nm} {lam : Nat → Nat}
theorem Way.runLate (hF : Facts P) (hms : ∀ j i, (lookM j ms).testBit i = true → Dep ops j i) (h : Way P I ops ms eF lF cF G N0 w0 rest done dm env lo c S bk a ap w N lam) {j q : Nat} (hj : (j, q) ∈ done) (hn : ¬ Ls S j) (hdep : ∀ m, Dep ops j m → Ls S m)
    {K : Act → World → Prop} {Q : Exit → Act → World → Prop} (hK : ∀ a' ap', Way P I ops ms eF lF cF G N0 w0 rest done dm env lo c (S.setIfInBounds j true) bk a' ap' w N lam → K a' w) : wpOp P ops Q j K a w := by
  obtain ⟨rfl, o, ho, hsel, hl⟩ := h.late j q hj hn
  have hag := h.agree_at hms ho (fun m hm => ⟨hdep m hm, h.topo j 0 hj m hm⟩) (fun t ht hdt => absurd ht ((h.fresh j 0 hj).self (by decide) o t ho hdt))
  unfold wpOp
  simp only [ho, hag.wanted]
  rcases late_run hF h.ok hl with ⟨hw, v, hr, hok⟩ | ⟨hw, hok⟩
  · simp only [hw, if_true]
    refine .inl ?_
    unfold Oper.wp
    rw [hag.exec hsel, hr]
    exact hK _ _ (h.ran hms ho hj hn hdep hok)
  · simp only [hw, Bool.false_eq_true, if_false]
    exact hK _ _ (h.ran hms ho hj hn hdep hok)
end
end Go.Proofs.YtaekfgbfpfecdaaGreat.VM

/- A heavy operation is run, by the machine and by the model at once; no conditions but those that each theorem names. -/
namespace Go.Proofs.YtaekfgbfpfecdaaGreat.VM
open Go
set_option linter.unusedVariables false
set_option linter.unusedSimpArgs false
variable {P : Program} [Df]
set_option linter.unusedSectionVars false

theorem isAI_sel {I : FI} {o : Oper} (h : isAI I o = true) : ∀ cs b, o.op ≠ .select cs b := by
  intro cs b e
  unfold isAI at h
  rw [e] at h
  split at h <;> cases h
theorem isAI_guard {I : FI} {o : Oper} (h : isAI I o = true) : o.guard = none := by
  unfold isAI at h
  split at h
  · next hg _ => exact hg
  · cases h
theorem Makes.put {ops : Array Oper} {o : Oper} {a : Act} {cells : Array Value} {ty : TypeId} {u : Nat → Value} (hm : Makes P o a cells ty u) (hs : ∀ cs b, o.op ≠ .select cs b) {dst : Option Nat} {v : Value} (h : ∀ d, dst = some d → d ∉ o.looksAt ops) : Makes P o (a.put dst v) cells ty u :=
  ⟨fun w1 => by rw [← hm.run w1, execOp_put o hs a dst v h]⟩
theorem put_other {a : Act} {dst : Option Nat} {v : Value} {s : Nat} (h : dst ≠ some s) : (a.put dst v).tmps[s]? = a.tmps[s]? := by
  cases dst with
  | none => rfl
  | some d =>
    rw [put_get, if_neg]
    rintro ⟨rfl, _⟩
    exact h rfl
theorem put_both {a b : Act} (h : a.tmps.size = b.tmps.size) {dst : Option Nat} {v : Value} {s : Nat} (hd : dst = some s) : (a.put dst v).tmps[s]? = (b.put dst v).tmps[s]? := by
  rw [hd, put_get, put_get, h]
  split
  · rfl
  · next hq =>
    have : ¬ s < b.tmps.size := fun e => hq ⟨rfl, e⟩
    rw [Array.getElem?_eq_none (by rw [h]; omega), Array.getElem?_eq_none (by omega)]
section
variable {I : FI} {ops : Array Oper} {ms : List (Nat × Nat)} {eF : Env} {lF : Lo} {cF : Core} {G : Nat → Prop} {N0 : Nm} {w0 : World} {rest done : List (Nat × Nat)} {dm : Nat} {env : Env} {lo : Lo} {c : Core} {S : Array Bool} {bk : Nat → Nat} {a ap : Act} {w : World} {N : Nm} {lam : Nat → Nat}

theorem Way.notDone (hms : ∀ j i, (lookM j ms).testBit i = true → Dep ops j i) (h : Way P I ops ms eF lF cF G N0 w0 rest done dm env lo c S bk a ap w N lam) {i q : Nat} (hi : (i, q) ∈ rest) : ¬ ∃ q', (i, q') ∈ done := fun hx => by
  have h1 := (h.dmk i).2 hx
  rw [drwOk_new hms h.chk i q hi] at h1
  cases h1
theorem Way.heavy (hF : Facts P) (hfns : FnsOK P I.fns) {i q : Nat} (hq0 : q ≠ 0) (hq2 : q ≠ 2) (hms : ∀ j i, (lookM j ms).testBit i = true → Dep ops j i) (h : Way P I ops ms eF lF cF G N0 w0 ((i, q) :: rest) done dm env lo c S bk a ap w N lam) (hn : ¬ Ls S i) (hdep : ∀ m, Dep ops i m → Ls S m)
    {K : Act → World → Prop} {Q : Exit → Act → World → Prop}
    (hK : ∀ dm' env' lo' c' N' lam' a' ap' w', Way P I ops ms eF lF cF G N0 w0 rest ((i, q) :: done) dm' env' lo' c' (S.setIfInBounds i true) bk a' ap' w' N' lam' → K a' w') : wpOp P ops Q i K a w := by
  obtain ⟨o, hs, hchk⟩ := drwOk_step hms h.chk
  have hhead := drwOk_head hms h.chk
  obtain ⟨o', gd, env1, lo1, c1, hi⟩ := ends_inv (P := P) hfns h.ends
  have := hi.op
  rw [hs.op] at this
  cases this
  have hnd := h.notDone hms (List.mem_cons_self (a := (i, q)))
  have hag := h.agree_at hms hs.op (fun m hm => ⟨hdep m hm, h.deps hs m hm⟩) (fun t ht hdt => ⟨fun x => absurd x hn, fun x => absurd x hnd⟩)
  rcases denOp_ok (P := P) hF hs.op hfns hi.grd (lo := lo) (c := c) with hno | ⟨env', lo', c', hsound, hden⟩
  · have h1 := hi.den fun _ _ _ => true
    have h2 := hno fun _ _ _ => true
    simp only at h2
    rw [h2] at h1
    cases h1
  obtain ⟨e1, e2, e3⟩ := one_end fun k => (hi.den k).symm.trans (hden k)
  subst e1 e2 e3
  have hwp := hsound _ _ _ _ _ h.ok (fun a' w' => After I.nt (Gx G ((i, q) :: rest) S bk) N w env1 lo1 c1 a' w') (fun _ _ _ => False) (fun _ _ x => x)
  have hcar := wpOp_carry (Q := Q) hs.op hs.sel hag h.ok.df (fun a' w' hx => by obtain ⟨N', lam', _, hok, _⟩ := hx; exact hok.df) hwp
  refine wpOp_mono (fun a' w' hx => ?_) hcar
  obtain ⟨v, rfl, N', lam', hext, hok', hsame, hbig⟩ := hx
  have hjs : i < S.size := by rw [h.size]; exact (Array.getElem?_eq_some_iff.1 hs.op).1
  have hls := fun m => Ls_set (m := m) hjs
  have hne : ∀ x q', (x, q') ∈ rest → x ≠ i := fun x q' hx e => hhead q' (e ▸ hx)
  have hls2 : ∀ x, (x, 2) ∈ rest → Ls (S.setIfInBounds i true) x → Ls S x := fun x hx hl => ((hls x).1 hl).resolve_right (hne x 2 hx)
  refine hK _ _ _ _ _ _ _ _ _ ⟨by simp [h.size], h.bits, hchk, hi.ends, fun x y hx hxy => ?_, fun x hx => ?_, fun j q' hj hnj => ?_, h.topo' hs, h.fresh' hs, hok'.less fun g hg => ?_, h.ext.trans hext, h.same.trans ⟨hsame.1, fun g hg => hsame.2 g (.inl hg)⟩, Nat.le_trans h.big hbig, h.ing, fun x hx hl => ?_,
    fun x y hx h1 hy h2 => h.inj x y (List.mem_cons_of_mem _ hx) (hls2 x hx h1) (List.mem_cons_of_mem _ hy) (hls2 y hy h2), ?_, ?_, fun s hws => ?_⟩
  · rw [hls] at hx ⊢
    rcases hx with hx | rfl
    · exact .inl (h.closed x y hx hxy)
    · exact .inl (hdep y hxy)
  · rcases (hls x).1 hx with hx | rfl
    · rcases h.lst x hx with ⟨q', hq⟩ | hq
      · exact .inl ⟨q', List.mem_cons_of_mem _ hq⟩
      · exact .inr ((mem_skip hq2).1 hq)
    · exact .inl ⟨q, List.mem_cons_self⟩
  · have hnj' : ¬ Ls S j := fun hl => hnj ((hls j).2 (.inl hl))
    rcases List.mem_cons.1 hj with hj | hj
    · injection hj with e1 _
      subst e1
      exact absurd ((hls j).2 (.inr rfl)) hnj
    · exact h.late_again hext hms hs hi hq0 hdep j q' hj hnj'
  · rcases hg with hg | ⟨x, hx, h1, h2⟩
    · exact .inl hg
    · exact .inr ⟨x, List.mem_cons_of_mem _ hx, hls2 x hx h1, h2⟩
  · have hlx := hls2 x hx hl
    have hx' : (x, 2) ∈ (i, q) :: rest := List.mem_cons_of_mem _ hx
    obtain ⟨hb, ox, d, cells, ty, u, hox, hd, hm, hw, hv⟩ := h.early x hx' hlx
    have hap : ∀ d', o.dst = some d' → Apart ops d' ox := fun d' hd' => by
      rcases hs.fresh.hard o d' hs.op hd' x ox hox (hne x 2 hx) with h1 | h1 | h1
      · exact absurd (h.closed x i hlx h1) hn
      · exact absurd (h.deps hs x h1) (h.notDone hms hx')
      · exact h1
    obtain ⟨ox', hox', hAx⟩ := early_isAI hms hchk hx
    rw [hox] at hox'
    cases hox'
    refine ⟨hb, ox, d, cells, ty, u, hox, hd, hm.put (isAI_sel hAx) fun d' hd' => (hap d' hd').1, ?_, ?_⟩
    · rw [hsame.2 _ (.inr ⟨x, hx', hlx, rfl⟩)]
      exact hw
    · rw [put_other fun e => (hap _ e).2 hd]
      exact hv
  · cases o.dst <;> exact h.dfs
  · cases o.dst <;> simp [Act.put, h.tms]
  · by_cases hds : o.dst = some s
    · exact put_both h.tms hds
    · rw [put_other hds, put_other hds]
      refine h.agree s fun x ox hox hx => ?_
      have hxi : x ≠ i := fun e => by
        subst e
        rw [hs.op] at hox
        cases hox
        exact hds hx
      have := hws x ox hox hx
      rw [hls] at this
      constructor
      · intro hl
        obtain ⟨q', hq⟩ := this.1 (.inl hl)
        rcases List.mem_cons.1 hq with hq | hq
        · injection hq with e1 _
          exact absurd e1 hxi
        · exact ⟨q', hq⟩
      · rintro ⟨q', hq⟩
        exact (this.2 ⟨q', List.mem_cons_of_mem _ hq⟩).resolve_right hxi
end
end Go.Proofs.YtaekfgbfpfecdaaGreat.VM

/- A frame's own block is made ahead of its turn; no conditions but those that each theorem names. -/
namespace Go.Proofs.YtaekfgbfpfecdaaGreat.VM
open Go
set_option linter.unusedVariables false
set_option linter.unusedSimpArgs false
variable {P : Program} [Df]
set_option linter.unusedSectionVars false

theorem early_lt {I : FI} {o : Oper} (hA : isAI I o = true) {d : Nat} (hd : o.dst = some d) {env : Env} {lo : Lo} {c : Core} (h : ¬ ∀ k, denOp I o none env lo c k = false) : d < I.nt := by
  refine Classical.byContradiction fun hlt => h fun k => ?_
  have hb : Nat.blt d I.nt = false := by rw [blt_eq]; simp [hlt]
  unfold isAI at hA
  split at hA
  · next d' hg hd' =>
    rw [hd] at hd'
    cases hd'
    split at hA
    · next t hop =>
      have e : denOp I o none env lo c k = denAlloc I o.dst t env lo c k := by unfold denOp; rw [hop]
      rw [e]
      simp only [denAlloc, hd, hA, newLoc, hb, Bool.and_false, cond_false]
      cases (zeroOk t && Nat.blt 0 (lenK (lay t))) <;> rfl
    · next t len ps hop =>
      obtain ⟨hl0, hA⟩ : Nat.beq len 0 = false ∧ memN d I.locs = true := by
        cases hl0 : Nat.beq len 0 <;> rw [hl0] at hA
        · exact ⟨rfl, hA⟩
        · cases hA
      have e : denOp I o none env lo c k = denBuildS I o.dst t len ps.toList env lo c k := by unfold denOp; rw [hop]; simp only [hl0, cond_false]
      rw [e]
      simp only [denBuildS, hd]
      cases hty : ty t with
      | mk td n =>
      cases td <;> first | rfl | skip
      next el =>
      simp only
      cases q : (zeroOk el && Nat.blt 0 (lenK (lay el)) && Nat.beq (ty el).size (lenK (lay el)) && Nat.blt 0 len && Nat.blt (Nat.mul len (lenK (lay el))) 131072) with
      | false => rfl
      | true =>
      simp only [cond_true]
      cases hy : partsN (placeArr len el) (repK len (lay el)) env ps.toList 0 0 with
      | none => rfl
      | some y => simp only [hA, force_eq, newLoc, hb, Bool.and_false, cond_false]
    · cases hA
  · cases hA
/-- An operation that comes early does not look at the slot of one that comes early ahead of it. -/
theorem early_apart {I : FI} {ops : Array Oper} {ms : List (Nat × Nat)} (hms : ∀ j i, (lookM j ms).testBit i = true → Dep ops j i) {i j d : Nat} {oi oj : Oper} (hij : i ≠ j) (hoi : ops[i]? = some oi) (hoj : ops[j]? = some oj) (hd : oj.dst = some d) (hdep : Dep ops i j) : ∀ {rest : List (Nat × Nat)} {dm : Nat}, drwOk I ops ms rest dm = true →
    (∀ x, dm.testBit x = true → ∀ m, Dep ops x m → dm.testBit m = true) → (j, 2) ∈ rest → (i, 2) ∈ rest → d ∉ oi.looksAt ops
  | [], dm, _, _, h, _ => by cases h
  | (x, q) :: rest, dm, hk, ht, hj, hi => by
    obtain ⟨o, hs, h2⟩ := drwOk_step hms hk
    have hnew := drwOk_new hms hk
    have hdeps : ∀ m, Dep ops x m → dm.testBit m = true := by
      intro m hm
      obtain ⟨o', e, ho, he, hb, h1⟩ := dep_direct hm
      rw [hs.op] at ho
      cases ho
      have := hs.topo e he hb
      rcases h1 with rfl | h1
      · exact this
      · exact ht _ this _ h1
    rcases List.mem_cons.1 hi with hi' | hi'
    · injection hi' with e1 e2
      subst e1 e2
      have := hdeps j hdep
      rw [hnew j 2 hj] at this
      cases this
    · rcases List.mem_cons.1 hj with hj' | hj'
      · injection hj' with e1 e2
        subst e1 e2
        rw [hs.op] at hoj
        cases hoj
        obtain ⟨oi', h3, h4⟩ := hs.apart2 (by decide) (by decide) d hd i hi'
        rw [hoi] at h3
        cases h3
        exact h4
      · refine early_apart hms hij hoi hoj hd hdep h2 (fun y hy m hm => ?_) hj' hi'
        rw [testBit_or', testBit_one_shl, Bool.or_eq_true, decide_eq_true_eq] at hy ⊢
        rcases hy with hy | rfl
        · exact .inl (ht y hy m hm)
        · exact .inl (hdeps m hm)
/-- What is still to come will be done. -/
theorem look_on {I : FI} (hfns : FnsOK P I.fns) {ops : Array Oper} {ms : List (Nat × Nat)} (hms : ∀ j i, (lookM j ms).testBit i = true → Dep ops j i) {eF : Env} {lF : Lo} {cF : Core} {i : Nat} {o : Oper} (ho : ops[i]? = some o) (hA : isAI I o = true) : ∀ {rest done : List (Nat × Nat)} {dm : Nat} {env : Env} {lo : Lo} {c : Core},
    Ends I ops ms eF lF cF rest done env lo c → drwOk I ops ms rest dm = true → (∀ x, dm.testBit x = true → ∀ m, Dep ops x m → dm.testBit m = true) → (i, 2) ∈ rest → (∀ m, Dep ops i m → dm.testBit m = true ∨ (m, 2) ∈ rest) →
    ∃ envr lor cr, (∀ t ∈ o.looksAt ops, getA env t = getA envr t) ∧ ¬ ∀ k, denOp I o none envr lor cr k = false
  | [], done, dm, env, lo, c, _, _, _, h, _ => by cases h
  | (j, q) :: rest, done, dm, env, lo, c, he, hk, ht, hm, hl => by
    obtain ⟨o1, hs, hk2⟩ := drwOk_step hms hk
    have hnew := drwOk_new hms hk
    have hhead := drwOk_head hms hk
    obtain ⟨oj, gd, env1, lo1, c1, hi⟩ := ends_inv hfns he
    have := hi.op
    rw [hs.op] at this
    cases this
    have hdeps : ∀ m, Dep ops j m → dm.testBit m = true := by
      intro m hm
      obtain ⟨o', e, ho, he, hb, h1⟩ := dep_direct hm
      rw [hs.op] at ho
      cases ho
      have := hs.topo e he hb
      rcases h1 with rfl | h1
      · exact this
      · exact ht _ this _ h1
    by_cases hji : (j, q) = (i, 2)
    · injection hji with e1 e2
      subst e1 e2
      have := hs.op
      rw [ho] at this
      cases this
      have hgd := gd_none (isAI_guard hA) hi.grd
      subst hgd
      refine ⟨env, lo, c, fun t _ => rfl, fun h => ?_⟩
      have h1 := hi.den fun _ _ _ => true
      rw [h] at h1
      cases h1
    · have hm' : (i, 2) ∈ rest := by
        rcases List.mem_cons.1 hm with h | h
        · exact absurd h.symm hji
        · exact h
      have hij : i ≠ j := fun e => hhead 2 (e ▸ hm')
      obtain ⟨envr, lor, cr, h1, h2⟩ := look_on hfns hms ho hA hi.ends hk2 (fun y hy m hm => by
        rw [testBit_or', testBit_one_shl, Bool.or_eq_true, decide_eq_true_eq] at hy ⊢
        rcases hy with hy | rfl
        · exact .inl (ht y hy m hm)
        · exact .inl (hdeps m hm)) hm' (fun m hm => by
        rw [testBit_or', testBit_one_shl, Bool.or_eq_true, decide_eq_true_eq]
        rcases hl m hm with h3 | h3
        · exact .inl (.inl h3)
        · rcases List.mem_cons.1 h3 with h3 | h3
          · injection h3 with e1 _
            exact .inl (.inr e1.symm)
          · exact .inr h3)
      refine ⟨envr, lor, cr, fun t hto => ?_, h2⟩
      rw [← h1 t hto]
      refine (hi.env t fun hdt => ?_).symm
      have hno : Dep ops i j → q ≠ 2 → False := fun hd hq => by
        rcases hl j hd with h3 | h3
        · rw [hnew j q List.mem_cons_self] at h3
          cases h3
        · rcases List.mem_cons.1 h3 with h3 | h3
          · injection h3 with _ e2
            exact hq e2.symm
          · exact hhead 2 h3
      by_cases hq2 : q = 2
      · subst hq2
        obtain ⟨oi, h3, h4⟩ := hs.apart2 (by decide) (by decide) t hdt i hm'
        rw [ho] at h3
        cases h3
        exact h4 hto
      · rcases hs.fresh.hard o1 t hs.op hdt i o ho hij with h3 | h3 | h3
        · exact hno h3 hq2
        · have := hdeps i h3
          rw [hnew i 2 hm] at this
          cases this
        · exact h3.1 hto
section
variable {I : FI} {ops : Array Oper} {ms : List (Nat × Nat)} {eF : Env} {lF : Lo} {cF : Core} {G : Nat → Prop} {N0 : Nm} {w0 : World} {rest done : List (Nat × Nat)} {dm : Nat} {env : Env} {lo : Lo} {c : Core} {S : Array Bool} {bk : Nat → Nat} {a ap : Act} {w : World} {N : Nm} {lam : Nat → Nat}

theorem Way.topoB (h : Way P I ops ms eF lF cF G N0 w0 rest done dm env lo c S bk a ap w N lam) : ∀ x, dm.testBit x = true → ∀ m, Dep ops x m → dm.testBit m = true := fun x hx m hm => by
  obtain ⟨q, hq⟩ := (h.dmk x).1 hx
  exact (h.dmk m).2 (h.topo x q hq m hm)
theorem Way.make (hF : Facts P) (hfns : FnsOK P I.fns) {i : Nat} (hms : ∀ j i, (lookM j ms).testBit i = true → Dep ops j i) (h : Way P I ops ms eF lF cF G N0 w0 rest done dm env lo c S bk a ap w N lam) (hi : (i, 2) ∈ rest) (hn : ¬ Ls S i) (hdep : ∀ m, Dep ops i m → Ls S m)
    {K : Act → World → Prop} {Q : Exit → Act → World → Prop}
    (hK : ∀ bk' a' w', Way P I ops ms eF lF cF G N0 w0 rest done dm env lo c (S.setIfInBounds i true) bk' a' ap w' N lam → K a' w') : wpOp P ops Q i K a w := by
  obtain ⟨o, ho, hA⟩ := early_isAI hms h.chk hi
  have hfr := fresh_rest hms h.chk i 2 hi
  have hsel := isAI_sel hA
  have hnd := h.notDone hms hi
  have hne2 : ∀ j q, (j, q) ∈ rest → (j, 2) ∈ rest → q = 2 ∨ q ≠ 2 := fun _ q _ _ => Classical.em _
  obtain ⟨envr, lor, cr, h1, h2⟩ := look_on hfns hms ho hA h.ends h.chk h.topoB hi (fun m hm => by
    rcases h.lst m (hdep m hm) with hx | hx
    · exact .inl ((h.dmk m).2 hx)
    · exact .inr hx)
  obtain ⟨cells, ty, v, hmk⟩ := early_makes hF hA h2 h1 h.ok
  have hag : Agree (o.looksAt ops) a ap := by
    intro t ht
    refine h.agree t fun j oj hoj hjt => ?_
    by_cases hji : j = i
    · subst hji
      rw [ho] at hoj
      cases hoj
      exact absurd ht (hfr.self (by decide) o t ho hjt)
    · have hjs : j < ops.size := (Array.getElem?_eq_some_iff.1 hoj).1
      rcases drwOk_all hms h.chk j hjs with hb | ⟨q, hq⟩
      · obtain ⟨q, hq⟩ := (h.dmk j).1 hb
        refine ⟨fun _ => ⟨q, hq⟩, fun _ => ?_⟩
        refine Classical.byContradiction fun hnl => ?_
        have hq0 := (h.late j q hq hnl).1
        subst hq0
        rcases (h.fresh j 0 hq).light (by decide) oj t hoj hjt i o ho (Ne.symm hji) with hd | hap
        · exact hnl (hdep j hd)
        · exact hap.1 ht
      · refine ⟨fun hl => ?_, fun hx => absurd hx (h.notDone hms hq)⟩
        rcases h.lst j hl with hx | hx
        · exact hx
        · exfalso
          rcases (fresh_rest hms h.chk j 2 hx).light (by decide) oj t hoj hjt i o ho (Ne.symm hji) with hd | hap
          · exact early_apart hms (Ne.symm hji) ho hoj hjt hd h.chk h.topoB hx hi ht
          · exact hap.1 ht
  have hma : Makes P o a cells ty v := ⟨fun w1 => by rw [hag.exec hsel]; exact hmk.run w1⟩
  obtain ⟨d, hd⟩ : ∃ d, o.dst = some d := by
    unfold isAI at hA
    split at hA
    · next d _ hd => exact ⟨d, hd⟩
    · cases hA
  refine wpOp_value ho (isAI_guard hA) (hma.run w) ?_
  have hjs : i < S.size := by rw [h.size]; exact (Array.getElem?_eq_some_iff.1 ho).1
  have hls := fun m => Ls_set (m := m) hjs
  have hw' : ({ w with heap := w.heap.push (.cells cells ty (0, 0)) } : World).heap = w.heap.push (.cells cells ty (0, 0)) := rfl
  obtain ⟨g1, g2, g3⟩ := push_get hw'
  have hbi : upd bk i w.heap.size i = w.heap.size := by simp [upd]
  have hbo : ∀ x, x ≠ i → upd bk i w.heap.size x = bk x := fun x hx => by simp [upd, hx]
  have hlo : ∀ x, x ≠ i → (Ls (S.setIfInBounds i true) x ↔ Ls S x) := fun x hx => by
    rw [hls]
    exact ⟨fun hh => hh.resolve_right hx, .inl⟩
  have hlt : ∀ x, (x, 2) ∈ rest → Ls S x → bk x < w.heap.size := fun x hx hl => by
    obtain ⟨_, _, _, _, _, _, _, _, _, hw, _⟩ := h.early x hx hl
    exact (Array.getElem?_eq_some_iff.1 hw).1
  have hdlt : d < a.tmps.size ∨ ¬ d < a.tmps.size := Classical.em _
  refine hK (upd bk i w.heap.size) _ _ ⟨by simp [h.size], h.dmk, h.chk, h.ends, fun x y hx hxy => ?_, fun x hx => ?_, fun j q hj hnj => ?_, h.topo, h.fresh, h.ok.pushed hw' fun g hg => ?_, h.ext, h.same.trans ⟨⟨rfl, rfl⟩, fun g hg => g2 g (Nat.lt_of_lt_of_le (h.ing g hg) h.big)⟩, Nat.le_trans h.big (by omega), h.ing, fun x hx hl => ?_,
    fun x y hx h1 hy h2 he => ?_, ?_, ?_, fun s hws => ?_⟩
  · rw [hls] at hx ⊢
    rcases hx with hx | rfl
    · exact .inl (h.closed x y hx hxy)
    · exact .inl (hdep y hxy)
  · rcases (hls x).1 hx with hx | rfl
    · exact h.lst x hx
    · exact .inr hi
  · exact h.late j q hj fun hl => hnj ((hls j).2 (.inl hl))
  · rcases hg with hg | ⟨x, hx, h1, h2⟩
    · exact .inl (.inl hg)
    · by_cases hxi : x = i
      · subst hxi
        rw [hbi] at h2
        exact .inr h2.symm
      · rw [hbo x hxi] at h2
        exact .inl (.inr ⟨x, hx, (hlo x hxi).1 h1, h2⟩)
  · by_cases hxi : x = i
    · subst hxi
      rw [hbi]
      refine ⟨h.big, o, d, cells, ty, v, ho, hd, hma.put hsel fun d' hd' => hfr.self (by decide) o d' ho hd', g1, ?_⟩
      rw [hd, put_get, if_pos ⟨rfl, by rw [h.tms, h.ok.nt]; exact early_lt hA hd h2⟩]
    · have hlx := (hlo x hxi).1 hl
      obtain ⟨hb, ox, dx, cx, tyx, u, hox, hdx, hm, hw, hv⟩ := h.early x hx hlx
      have hap : Apart ops d ox := by
        rcases hfr.light (by decide) o d ho hd x ox hox hxi with h3 | h3
        · exact absurd (h.closed x i hlx h3) hn
        · exact h3
      obtain ⟨ox', hox', hAx⟩ := early_isAI hms h.chk hx
      rw [hox] at hox'
      cases hox'
      rw [hbo x hxi]
      refine ⟨hb, ox, dx, cx, tyx, u, hox, hdx, hm.put (isAI_sel hAx) fun d' hd' => by rw [hd] at hd'; cases hd'; exact hap.1, by rw [g2 _ (hlt x hx hlx)]; exact hw, ?_⟩
      rw [put_other fun e => by rw [hd] at e; cases e; exact hap.2 hdx]
      exact hv
  · by_cases hxi : x = i
    · by_cases hyi : y = i
      · rw [hxi, hyi]
      · rw [hxi, hbi, hbo y hyi] at he
        have := hlt y hy ((hlo y hyi).1 h2)
        omega
    · by_cases hyi : y = i
      · rw [hyi, hbi, hbo x hxi] at he
        have := hlt x hx ((hlo x hxi).1 h1)
        omega
      · rw [hbo x hxi, hbo y hyi] at he
        exact h.inj x y hx ((hlo x hxi).1 h1) hy ((hlo y hyi).1 h2) he
  · rw [hd]; exact h.dfs
  · rw [hd]; simp [Act.put, h.tms]
  · have hds : o.dst ≠ some s := fun e => hnd ((hws i o ho e).1 ((hls i).2 (.inr rfl)))
    rw [put_other hds]
    refine h.agree s fun x ox hox hx => ?_
    have hxi : x ≠ i := fun e => by
      subst e
      rw [ho] at hox
      cases hox
      exact hds hx
    rw [← hws x ox hox hx, hlo x hxi]
end
end Go.Proofs.YtaekfgbfpfecdaaGreat.VM

/- A region whose order is drawn, whole; no conditions but those that each theorem names. -/
namespace Go.Proofs.YtaekfgbfpfecdaaGreat.VM
open Go
set_option linter.unusedVariables false
set_option linter.unusedSimpArgs false
variable {P : Program} [Df]
set_option linter.unusedSectionVars false

/-- How many are not yet listed. -/
def cnt (S : Array Bool) : Nat → Nat
  | 0 => 0
  | n + 1 => cnt S n + (if S.getD n false = true then 0 else 1)
theorem cnt_set {S : Array Bool} {i : Nat} (h : S.getD i false = false) (hi : i < S.size) : ∀ n, cnt (S.setIfInBounds i true) n + (if i < n then 1 else 0) = cnt S n
  | 0 => rfl
  | n + 1 => by
    have ih := cnt_set h hi n
    simp only [cnt]
    by_cases hin : i = n
    · subst hin
      rw [if_neg (Nat.lt_irrefl i)] at ih
      have : (S.setIfInBounds i true).getD i false = true := by simp [hi]
      rw [this, h]
      simp
      omega
    · rw [getD_set_ne false hin]
      have : i < n + 1 ↔ i < n := by omega
      simp only [this]
      omega
theorem cnt_zero {S : Array Bool} : ∀ {n : Nat}, cnt S n = 0 → ∀ j, j < n → S.getD j false = true
  | 0, _, j, h => by omega
  | n + 1, h, j, hj => by
    simp only [cnt] at h
    by_cases hjn : j = n
    · subst hjn
      by_cases hs : S.getD j false = true
      · exact hs
      · rw [if_neg hs] at h
        omega
    · exact cnt_zero (n := n) (by omega) j (by omega)
theorem getD_tf {S : Array Bool} {j : Nat} (h : j < S.size) : S.getD j true = S.getD j false := by simp [h]
theorem cnt_new : ∀ (n m : Nat), m ≤ n → cnt (Array.replicate n false) m ≤ m
  | n, 0, _ => Nat.le_refl _
  | n, m + 1, h => by
    have := cnt_new n m (by omega)
    simp only [cnt]
    split <;> omega
theorem listed_all {I : FI} {ops : Array Oper} {ms : List (Nat × Nat)} (hms : ∀ j i, (lookM j ms).testBit i = true → Dep ops j i) {S : Array Bool} (hr : ∀ j o, ops[j]? = some o → (∀ e ∈ o.after, Region.binds .any e = true → Ls S e.on) → Ls S j) : ∀ {l : List (Nat × Nat)} {dm : Nat}, drwOk I ops ms l dm = true →
    (∀ j, dm.testBit j = true → Ls S j) → ∀ i q, (i, q) ∈ l → Ls S i
  | [], dm, _, _, i, q, h => by cases h
  | (x, q) :: l, dm, hk, hd, i, q', hi => by
    obtain ⟨o, hs, h2⟩ := drwOk_step hms hk
    have hx : Ls S x := hr x o hs.op fun e he hb => hd _ (hs.topo e he hb)
    rcases List.mem_cons.1 hi with h | h
    · injection h with e1 _
      subst e1
      exact hx
    · refine listed_all hms hr h2 (fun j hj => ?_) i q' h
      rw [testBit_or', testBit_one_shl, Bool.or_eq_true, decide_eq_true_eq] at hj
      rcases hj with hj | rfl
      · exact hd j hj
      · exact hx
section
variable {I : FI} {ops : Array Oper} {ms : List (Nat × Nat)} {eF : Env} {lF : Lo} {cF : Core} {G : Nat → Prop} {N0 : Nm} {w0 : World} {rest done : List (Nat × Nat)} {dm : Nat} {env : Env} {lo : Lo} {c : Core} {S : Array Bool} {bk : Nat → Nat} {a ap : Act} {w : World} {N : Nm} {lam : Nat → Nat}

/-- The machine goes on till it comes to what is to be run by both. -/
theorem Way.advance (hF : Facts P) (hfns : FnsOK P I.fns) (hms : ∀ j i, (lookM j ms).testBit i = true → Dep ops j i) : ∀ {rest done : List (Nat × Nat)} {dm : Nat} {env : Env} {lo : Lo} {c : Core} {ap : Act} {N : Nm} {lam : Nat → Nat},
    Way P I ops ms eF lF cF G N0 w0 rest done dm env lo c S bk a ap w N lam → ∃ rest' done' dm' env' lo' c' ap' N' lam', Way P I ops ms eF lF cF G N0 w0 rest' done' dm' env' lo' c' S bk a ap' w N' lam' ∧ (rest' = [] ∨ ∃ i q r, rest' = (i, q) :: r ∧ q ≠ 0 ∧ ¬ Ls S i)
  | [], done, dm, env, lo, c, ap, N, lam, h => ⟨_, _, _, _, _, _, _, _, _, h, .inl rfl⟩
  | (i, q) :: rest, done, dm, env, lo, c, ap, N, lam, h => by
    by_cases hl : Ls S i
    · have hq : q = 2 := by
        rcases h.lst i hl with hx | hx
        · exact absurd hx (h.notDone hms List.mem_cons_self)
        · rcases List.mem_cons.1 hx with hx | hx
          · injection hx with _ e2
            exact e2.symm
          · exact absurd hx (drwOk_head hms h.chk 2)
      subst hq
      obtain ⟨dm', env', lo', ap', lam', h'⟩ := h.name hF hfns hms hl
      exact Way.advance hF hfns hms h'
    · by_cases hq : q = 0
      · subst hq
        obtain ⟨dm', env', c', ap', N', h'⟩ := h.light hF hfns hms hl
        exact Way.advance hF hfns hms h'
      · exact ⟨_, _, _, _, _, _, _, _, _, h, .inr ⟨i, q, rest, rfl, hq, hl⟩⟩
/-- All is done. -/
theorem Way.finish (hF : Facts P) (hfns : FnsOK P I.fns) (hms : ∀ j i, (lookM j ms).testBit i = true → Dep ops j i) (h : Way P I ops ms eF lF cF G N0 w0 rest done dm env lo c S bk a ap w N lam) (hall : ∀ j, j < ops.size → Ls S j) : After I.nt G N0 w0 eF lF cF a w := by
  obtain ⟨rest', done', dm', env', lo', c', ap', N', lam', h, h1⟩ := h.advance hF hfns hms
  rcases h1 with rfl | ⟨i, q, r, rfl, _, hn⟩
  · obtain ⟨e1, e2, e3⟩ := one_end fun k => h.ends k
    subst e1 e2 e3
    have hdone : ∀ j, j < ops.size → ∃ q, (j, q) ∈ done' := fun j hj => by
      rcases drwOk_all hms h.chk j hj with hb | ⟨q, hq⟩
      · exact (h.dmk j).1 hb
      · cases hq
    have hap : a = ap' := by
      have ht : a.tmps = ap'.tmps := Array.ext_getElem? fun s => h.agree s fun j o hj hs => by
        have hjs : j < ops.size := (Array.getElem?_eq_some_iff.1 hj).1
        exact ⟨fun _ => hdone j hjs, fun _ => hall j hjs⟩
      have hd := h.dfs
      cases a
      cases ap'
      simp only at ht hd
      rw [ht, hd]
    subst hap
    exact ⟨N', lam', h.ext, h.ok.less fun g hg => .inl hg, h.same, h.big⟩
  · obtain ⟨o, hs, _⟩ := drwOk_step hms h.chk
    exact absurd (hall i (Array.getElem?_eq_some_iff.1 hs.op).1) hn
theorem Way.run (hF : Facts P) (hfns : FnsOK P I.fns) (hms : ∀ j i, (lookM j ms).testBit i = true → Dep ops j i) {pi : List (Nat × Nat)} (hpi : drwOk I ops ms pi 0 = true) {Q : Exit → Act → World → Prop} (hQ : ∀ a' w', After I.nt G N0 w0 eF lF cF a' w' → Q .normal a' w') : ∀ (fuel : Nat) {rest done : List (Nat × Nat)} {dm : Nat} {env : Env} {lo : Lo} {c : Core} {S : Array Bool} {bk : Nat → Nat} {a ap : Act} {w : World} {N : Nm} {lam : Nat → Nat},
    Way P I ops ms eF lF cF G N0 w0 rest done dm env lo c S bk a ap w N lam → cnt S ops.size ≤ fuel → wpAny P .any ops Q fuel S a w
  | 0, rest, done, dm, env, lo, c, S, bk, a, ap, w, N, lam, h, hc => by
    have hall : ∀ j, j < ops.size → Ls S j := cnt_zero (by omega)
    refine ⟨?_, hQ _ _ (h.finish hF hfns hms hall)⟩
    cases hr : Region.ready .any ops S with
    | nil => rfl
    | cons i l =>
      have hi : i ∈ Region.ready .any ops S := by rw [hr]; exact List.mem_cons_self
      obtain ⟨hun, o, ho, _⟩ := mem_ready.1 hi
      have his : i < ops.size := (Array.getElem?_eq_some_iff.1 ho).1
      rw [getD_tf (by rw [h.size]; exact his)] at hun
      have := hall i his
      unfold Ls at this
      rw [hun] at this
      cases this
  | fuel + 1, rest, done, dm, env, lo, c, S, bk, a, ap, w, N, lam, h, hc => by
    refine ⟨fun hr => hQ _ _ (h.finish hF hfns hms fun j hj => ?_), fun i hi => ?_⟩
    · rcases drwOk_all hms hpi j hj with hb | ⟨q, hq⟩
      · simp at hb
      · refine listed_all hms (fun x o hx hd => ?_) hpi (fun y hy => by simp at hy) j q hq
        refine Classical.byContradiction fun hn => ?_
        have hxs : x < ops.size := (Array.getElem?_eq_some_iff.1 hx).1
        have : x ∈ Region.ready .any ops S := mem_ready.2 ⟨by
          rw [getD_tf (by rw [h.size]; exact hxs)]
          cases hq : S.getD x false
          · rfl
          · exact absurd hq hn, o, hx, hd⟩
        rw [hr] at this
        cases this
    · obtain ⟨hun, o, ho, hall⟩ := mem_ready.1 hi
      have his : i < ops.size := (Array.getElem?_eq_some_iff.1 ho).1
      have hisS : i < S.size := by rw [h.size]; exact his
      rw [getD_tf hisS] at hun
      have hn : ¬ Ls S i := fun hl => by
        unfold Ls at hl
        rw [hun] at hl
        cases hl
      have hdep : ∀ m, Dep ops i m → Ls S m := by
        intro m hm
        obtain ⟨o', e, ho', he, hb, h1⟩ := dep_direct hm
        rw [ho] at ho'
        cases ho'
        have := hall e he hb
        rcases h1 with rfl | h1
        · exact this
        · exact h.closed _ _ this h1
      have hcnt : cnt (S.setIfInBounds i true) ops.size ≤ fuel := by
        have := cnt_set hun hisS ops.size
        rw [if_pos his] at this
        omega
      obtain ⟨rest', done', dm', env', lo', c', ap', N', lam', h, h1⟩ := h.advance hF hfns hms
      rcases drwOk_all hms h.chk i his with hb | ⟨q', hq'⟩
      · obtain ⟨q, hq⟩ := (h.dmk i).1 hb
        exact h.runLate hF hms hq hn hdep fun a' ap'' hw => Way.run hF hfns hms hpi hQ fuel hw hcnt
      · rcases h1 with rfl | ⟨x, q, r, rfl, hq0, hnx⟩
        · cases hq'
        · by_cases hq2 : q' = 2
          · subst hq2
            exact h.make hF hfns hms hq' hn hdep fun bk' a' w' hw => Way.run hF hfns hms hpi hQ fuel hw hcnt
          · rcases List.mem_cons.1 hq' with hq' | hq'
            · injection hq' with e1 e2
              subst e1 e2
              exact h.heavy hF hfns hq0 hq2 hms hn hdep fun dm' env' lo' c' N' lam' a' ap' w' hw => Way.run hF hfns hms hpi hQ fuel hw hcnt
            · obtain ⟨ox, hs, _⟩ := drwOk_step hms h.chk
              rcases hs.below hq0 i q' hq' with h2 | h2
              · exact absurd h2 hq2
              · exact absurd (hdep x h2) hnx
end
theorem OK.drawn {nt : Nat} {G : Nat → Prop} {N : Nm} {lam : Nat → Nat} {env : Env} {lo : Lo} {c : Core} {a : Act} {w w' : World} (h : OK nt G N lam env lo c a w) (hw : w'.heap = w.heap) : OK nt G N lam env lo c a w' := by
  refine ⟨h.re.mono (Ext.refl N) (fun i e hi => by rw [hw]) h.re.off, h.rel.keep fun b g o k mo sp hb => by rw [hw], h.pools, h.off, fun g hg => ?_, h.prot, h.nt, h.df⟩
  have := h.ing g hg
  rw [hw]
  exact this
theorem drw_def {I : FI} (hfns : FnsOK P I.fns) {ops : Array Oper} {ms : List (Nat × Nat)} : ∀ {rest done : List (Nat × Nat)} {env : Env} {lo : Lo} {c : Core}, (∀ k, denDrw I ops.toList ms rest done env lo c k = false) ∨ ∃ env' lo' c', Ends I ops ms env' lo' c' rest done env lo c
  | [], done, env, lo, c => .inr ⟨env, lo, c, fun k => rfl⟩
  | (i, q) :: rest, done, env, lo, c => by
    unfold Ends
    simp only [denDrw]
    cases ho : nthO i ops.toList with
    | none => exact .inl fun k => rfl
    | some o =>
    simp only
    cases hg : guardOf ops.toList env o with
    | none => exact .inl fun k => rfl
    | some gd =>
    simp only
    rcases denOp_env (P := P) (o := o) (I := I) hfns (gd := gd) (env := env) (lo := lo) (c := c) with h | ⟨env1, lo1, c1, h1, h2⟩
    · refine .inl fun k => ?_
      match q with
      | 0 => simp only [h]; cases lightO o gd env <;> rfl
      | q + 1 => exact h _
    · rcases drw_def hfns (ops := ops) (ms := ms) (rest := rest) (done := (i, q) :: done) (env := env1) (lo := lo1) (c := c1) with h | ⟨env2, lo2, c2, h3⟩
      · refine .inl fun k => ?_
        match q with
        | 0 =>
          simp only [h1]
          cases lightO o gd env
          · rfl
          · cases (cond (catO o gd env) (noS ops.toList env1 done) true)
            · rfl
            · exact h k
        | q + 1 =>
          simp only [h1]
          rcases againAll_tri (ops := ops) (lookM i ms) env1 lo1 c1 done with ha | ⟨ha, hb⟩
          · exact ha _
          · exact (ha _).trans (h k)
      · match q, h3 with
        | 0, h3 =>
          simp only [h1]
          cases lightO o gd env with
          | false => exact .inl fun k => rfl
          | true =>
            cases (cond (catO o gd env) (noS ops.toList env1 done) true) with
            | false => exact .inl fun k => rfl
            | true => exact .inr ⟨env2, lo2, c2, fun k => h3 k⟩
        | q + 1, h3 =>
          simp only [h1]
          rcases againAll_tri (ops := ops) (lookM i ms) env1 lo1 c1 done with ha | ⟨ha, hb⟩
          · exact .inl fun k => ha _
          · exact .inr ⟨env2, lo2, c2, fun k => (ha _).trans (h3 k)⟩
/-- A region whose order is drawn. -/
theorem drawn_ok (hF : Facts P) (hm : P.follows .mixedOrders = true) {I : FI} (hfns : FnsOK P I.fns) {id : Nat} {ops : Array Oper} {pi : List (Nat × Nat)} {env : Env} {lo : Lo} {c : Core} : (∀ k, denDrawn I ops pi env lo c k = false) ∨ ∃ env' lo' c', (∀ k, denDrawn I ops pi env lo c k = k env' lo' c') ∧
    ∀ G N lam a w, OK I.nt G N lam env lo c a w → ∀ Q : Exit → Act → World → Prop, (∀ a' w', After I.nt G N w env' lo' c' a' w' → Q .normal a' w') → (Code.region id ops true).wp P Q a w := by
  unfold denDrawn
  cases hk : drwOk I ops (masksOf ops.toList pi []) pi 0 with
  | false => exact .inl fun k => rfl
  | true =>
    simp only [cond_true]
    have hms := masks_ok (ops := ops) pi [] (fun j i h => by simp [lookM] at h)
    rcases drw_def (P := P) hfns (ops := ops) (ms := masksOf ops.toList pi []) (rest := pi) (done := []) (env := env) (lo := lo) (c := c) with h | ⟨eF, lF, cF, h⟩
    · exact .inl h
    · refine .inr ⟨eF, lF, cF, h, fun G N lam a w hok Q hQ => wp_region_any hm ?_⟩
      have hok' : OK I.nt G N lam env lo c a { w with drawn := w.drawn + 1 } := hok.drawn rfl
      have hno : ∀ j, ¬ Ls (Array.replicate ops.size false) j := fun j hl => by
        unfold Ls at hl
        rcases Nat.lt_or_ge j ops.size with h1 | h1
        · simp [h1] at hl
        · simp [Nat.not_lt.2 h1] at hl
      refine Way.run hF hfns hms hk (G := G) (N0 := N) (w0 := { w with drawn := w.drawn + 1 }) (fun a' w' hA => hQ a' w' ?_) ops.size (bk := fun _ => 0) (ap := a) (N := N) (lam := lam) (done := []) (dm := 0)
        ⟨by simp, fun i => by simp, hk, h, fun j i hl => absurd hl (hno j), fun j hl => absurd hl (hno j), fun j q hj => (by cases hj), fun j q hj => (by cases hj), fun j q hj => (by cases hj), hok'.less fun g hg => ?_, Ext.refl N, Same.refl G _, Nat.le_refl _, hok'.ing, fun j _ hl => absurd hl (hno j), fun j _ _ hl => absurd hl (hno j), rfl, rfl, fun s _ => rfl⟩ (cnt_new _ _ (Nat.le_refl _))
      · exact hA
      · rcases hg with hg | ⟨j, _, hl, _⟩
        · exact hg
        · exact absurd hl (hno j)
end Go.Proofs.YtaekfgbfpfecdaaGreat.VM

