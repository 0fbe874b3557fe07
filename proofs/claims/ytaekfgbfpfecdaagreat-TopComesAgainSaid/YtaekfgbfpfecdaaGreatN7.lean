/- A range over an iterator function; a function whose new rows are forgotten; no conditions but those that each theorem names. -/
import Derived.Test.YtaekfgbfpfecdaaGreatN6
import Derived.RangeFuncFrom
import Derived.RangeFuncCalls
import Derived.RangeFuncLeaves
import Derived.WalkKit
import Derived.OwnWalkIn
import Derived.TacticsInMore
import Derived.LoopNIn
import Derived.LoopIn

namespace Go.Proofs.YtaekfgbfpfecdaaGreat.VM
open Go Go.RowKit
set_option linter.unusedVariables false
set_option linter.unusedSimpArgs false
set_option linter.unusedSectionVars false
variable {P : Program}

/-- On where code ends normally. -/
def nmK (F : Kont → Bool) (k : Env → Lo → Core → Bool) : Bool := F (fun e env lo c => match e with
  | .nm => k env lo c
  | _ => false)
def brK (env : Env) (q : Operand) (x y : Bool) : Bool := match evO env q with
  | some e => match asB e with
    | some t => cond t x y
    | none => false
  | none => false
theorem brK_def (env : Env) (q : Operand) : (∀ x y, brK env q x y = false) ∨ ∃ e t, evO env q = some e ∧ asB e = some t ∧ ∀ x y, brK env q x y = cond t x y := by
  unfold brK
  cases h : evO env q with
  | none => exact .inl fun x y => rfl
  | some e =>
    cases h2 : asB e with
    | none => exact .inl fun x y => by simp only [h2]
    | some t => exact .inr ⟨e, t, rfl, h2, fun x y => by simp only [h2]⟩

section any
variable [Df]
theorem piece {I : FI} {an : An} (hG : Good P I an) (x : Code) (env : Env) (lo : Lo) (c : Core) (hn : NoGd env) : (∀ k, nmK (den I an x env lo c) k = false) ∨ ∃ env' lo' c', NoGd env' ∧ (∀ k, nmK (den I an x env lo c) k = k env' lo' c') ∧
    ∀ G N lam a w, OK I.nt G N lam env lo c a w → ∀ Q : Exit → Act → World → Prop, (∀ a' w', After I.nt G N w env' lo' c' a' w' → Q .normal a' w') → x.wp P Q a w := by
  rcases hG x env lo c hn with h | ⟨e, env1, lo1, c1, hs, hd⟩
  · exact .inl fun k => h _
  · cases e with
    | nm => exact .inr ⟨env1, lo1, c1, hs.fr.noGd, fun k => hd _, hs.run⟩
    | ex i => exact .inl fun k => hd _
    | rt => exact .inl fun k => hd _
    | gt i => exact .inl fun k => hd _
end any

theorem rows_in {l n : Nat} {row : String} {args : Array Value} {w : World} {R : Value → World → Prop} (h : Rows P row args w R) : RowsIn (Fence.wide.inRound l) n P row args w R :=
  fun c cs _ => let ⟨v, w', r, s⟩ := h c cs; ⟨v, w', r, stepsIn_wide.2 s⟩
theorem calls_in {l n : Nat} {f : FuncId} {args : Array Value} {w : World} {R : Ending → World → Prop} (h : Calls P f args w R) : CallsIn (Fence.wide.inRound l) n P f args w R :=
  CallsIn.inRound l (callsIn_wide.2 h)
/-- Operations in their order, within a round: slots that none of them sets are as they were. -/
theorem wpOps_in {ops : Array Oper} {Q : Exit → Act → World → Prop} (hQ : ∀ e a w, Q e a w → e = .normal) {l n : Nat} (hd : ∀ o ∈ ops.toList, ∀ cl, o.op ≠ .defer cl) (ds : List Nat) (hds : ∀ o ∈ ops.toList, ∀ d, o.dst = some d → d ∈ ds) (a0 : Act) :
    ∀ (L : List Nat) (a : Act) (w : World), (∀ t, t ∉ ds → a.tmps[t]? = a0.tmps[t]?) → wpOps P ops Q L a w → wpOpsIn (Fence.wide.inRound l) n P ops (fun e a' w' => Q e a' w' ∧ ∀ t, t ∉ ds → a'.tmps[t]? = a0.tmps[t]?) L a w
  | [], a, w, ha, h => ⟨h, ha⟩
  | i :: rest, a, w, ha, h => by
    have ih := wpOps_in hQ (l := l) (n := n) hd ds hds a0 rest
    simp only [wpOps, wpOpsIn] at h ⊢
    cases ho : ops[i]? with
    | none =>
      simp only [ho] at h ⊢
      exact ih a w ha h
    | some o =>
      simp only [ho] at h ⊢
      have hm : o ∈ ops.toList := by
        have := Array.mem_of_getElem? ho
        exact this.val
      have hput : ∀ v, ∀ t, t ∉ ds → (a.put o.dst v).tmps[t]? = a0.tmps[t]? := by
        intro v t ht
        cases hdst : o.dst with
        | none => exact ha t ht
        | some d =>
          rw [put_get, if_neg]
          · exact ha t ht
          · rintro ⟨rfl, _⟩
            exact ht (hds o hm _ hdst)
      by_cases hw : Region.wanted o (yielded ops a.tmps) = true
      · rw [if_pos hw] at h ⊢
        rcases h with h | ⟨_, a', w', hq⟩
        · refine ⟨fun _ _ => trivial, ?_⟩
          rw [Oper.semAt_eq _ _ _ (hd o hm)]
          unfold Oper.wp at h
          generalize (execOp a.eval o).run P w = r at h ⊢
          cases r with
          | halt x w' =>
            cases x <;> simp only [Oper.upon] at h
            case panic v => cases hQ _ _ _ h
          | ok nx w' =>
            cases nx <;> simp only [Oper.upon] at h
            case value v => exact ih _ _ (hput v) h
            case skip => exact ih _ _ (hput undef) h
            case defer d =>
              refine ih _ _ ?_ h
              intro t ht
              have := hput undef t ht
              cases hdst : o.dst with
              | none => exact ha t ht
              | some d => rw [hdst] at this; exact this
            case enter f args =>
              refine ⟨(fun h => by cases h), calls_in (Calls.mono h ?_)⟩
              intro e w'' he
              cases e with
              | returned v => exact ih _ _ (hput v) he
              | panicked ch => cases hQ _ _ _ he
              | outgrown => obtain ⟨_, _, hq⟩ := he; cases hQ _ _ _ hq
            case row row args => exact ⟨(fun h => by cases h), rows_in (Rows.mono h fun v w'' he => ih _ _ (hput v) he)⟩
        · cases hQ _ _ _ hq
      · rw [if_neg hw] at h ⊢
        exact ⟨fun _ _ => trivial, ih _ _ (hput undef) h⟩

def noDef : List Oper → Bool
  | [] => true
  | o :: l => match o.op with
    | .defer _ => false
    | _ => noDef l
theorem noDef_ok : ∀ {l : List Oper}, noDef l = true → ∀ o ∈ l, ∀ cl, o.op ≠ .defer cl
  | [], _, o, h => by cases h
  | x :: l, h, o, hm => by
    intro cl e
    rcases List.mem_cons.1 hm with rfl | hm
    · simp only [noDef, e] at h; cases h
    · refine noDef_ok (l := l) ?_ o hm cl e
      simp only [noDef] at h
      split at h
      · cases h
      · exact h

section any
variable [Df]
/-- A region within a round. -/
theorem pieceR (hF : Facts P) {I : FI} (hfns : FnsOK P I.fns) {id : Nat} {ops : Array Oper} (hnd : noDef ops.toList = true) (env : Env) (lo : Lo) (c : Core) (hn : NoGd env) :
    (∀ k, nmK (den I .reg (.region id ops false) env lo c) k = false) ∨ ∃ env' lo' c', NoGd env' ∧ (∀ k, nmK (den I .reg (.region id ops false) env lo c) k = k env' lo' c') ∧ (∀ t e, t ∉ dstsOf ops.toList → getA env t = some e → getA env' t = some e) ∧
    ∀ G N lam a w, OK I.nt G N lam env lo c a w → ∀ l n (Q : Exit → Act → World → Prop), (∀ a' w', After I.nt G N w env' lo' c' a' w' → (∀ t, t ∉ dstsOf ops.toList → a'.tmps[t]? = a.tmps[t]?) → Q .normal a' w') → (Code.region id ops false).wpIn (Fence.wide.inRound l) n P Q a w := by
  rcases denOps_ok (P := P) hF (ops := ops) hfns ops.size 0 env lo c (by omega) with h | ⟨env1, lo1, c1, h1, h2⟩
  · exact .inl fun k => h _
  · rcases ops_leave (P := P) hfns (all := ops.toList) (l := ops.toList) (env := env) (lo := lo) (c := c) (fun o ho => ho) with h | ⟨env2, lo2, c2, h3, h4⟩
    · exact .inl fun k => h _
    · obtain ⟨rfl, rfl, rfl⟩ := one_end fun k => (h1 k).symm.trans (h3 k)
      refine .inr ⟨stripG env1, lo1, c1, strip_noGd _, fun k => h1 _, fun t e ht he => ?_, fun G N lam a w hok l n Q hQ => ?_⟩
      · rw [strip_get, h4.env t ht, he]
        cases e <;> first | rfl | exact absurd he (hn _ _ _ _ _)
      · have h5 := h2 G N lam a w hok (fun e a' w' => e = .normal ∧ After I.nt G N w (stripG env1) lo1 c1 a' w') (fun a' w' hA => ⟨rfl, hA.strip⟩)
        have h6 := wpOps_in (P := P) (l := l) (n := n) (fun e a' w' h => h.1) (noDef_ok hnd) (dstsOf ops.toList) (fun o ho d hd => dsts_mem ho hd) a _ a w (fun t _ => rfl) h5
        rw [← List.range_eq_range'] at h6
        refine wpIn_mono (wpIn_region h6) ?_
        rintro e a' w' ⟨⟨rfl, hA⟩, ht⟩
        exact hQ a' w' hA ht
end any
end Go.Proofs.YtaekfgbfpfecdaaGreat.VM

namespace Go.Proofs.YtaekfgbfpfecdaaGreat.VM
open Go Go.RowKit
set_option linter.unusedVariables false
set_option linter.unusedSimpArgs false

def one0 (v : Value) : Nat := match v with
  | .int _ (.ofNat _) => 1
  | _ => 0
set_option maxRecDepth 100000 in
set_option maxHeartbeats 1000000 in
theorem back_one (n l : Nat) (hn : 1 ≤ n) (g o g1 o1 : Nat) (cap : Nat) (x : Int) (J0 J1 Jx : World → Prop)
    (hY : ∀ W, J0 W → YieldAt Fence.wide (n - 1) Tryz.prog l #[.int .i64 0, .int .i64 x] W fun e W' =>
      (e = .returned (.bool true) ∧ J1 W') ∨ (e = .returned (.bool false) ∧ Jx W'))
    (W : World) (hp : W.cell? ⟨g, o, none⟩ = some (.slice (some ⟨g1, o1, none⟩) 1 cap)) (hpf : W.frozen? ⟨g, o, none⟩ = false) (hq : W.cell? ⟨g1, o1, none⟩ = some (.int .i64 x)) (hqf : W.frozen? ⟨g1, o1, none⟩ = false) (h0 : J0 W) :
    CallsIn Fence.wide n Tryz.prog 192 #[.func (.yield l) #[] #[], .pointer (some ⟨g, o, none⟩)] W fun e W' => (∃ v, e = .returned v) ∧ (J1 W' ∨ Jx W') := by
  refine callsIn_of_wp Tryz.func192 rfl trivial ?_ rfl
  simp only [Tryz.ntmps192, List.size_toArray, List.length_cons, List.length_nil, Nat.reduceAdd, Nat.reduceSub, Array.replicate_succ, Array.replicate_zero, List.push_toArray, List.append_toArray, List.nil_append, List.cons_append]
  gi_wp2
  gi_loopw [3] (fun p wr => (p = .int .i64 0 ∧ J0 wr ∧ wr.cell? ⟨g, o, none⟩ = some (.slice (some ⟨g1, o1, none⟩) 1 cap) ∧ wr.frozen? ⟨g, o, none⟩ = false ∧ wr.cell? ⟨g1, o1, none⟩ = some (.int .i64 x) ∧ wr.frozen? ⟨g1, o1, none⟩ = false) ∨ (p = .int .i64 (-1) ∧ J1 wr))
    (fun p wr => one0 p)
  case atStart => exact .inl ⟨rfl, h0, hp, hpf, hq, hqf⟩
  case round =>
    rcases hrel with ⟨rfl, hJ, hp', hpf', hq', hqf'⟩ | ⟨rfl, hJ⟩
    · obtain ⟨fn, tmps, assign, body, hy, hR⟩ := hY wr hJ
      gi_wp2
      refine hR.mono ?_
      rintro e W3 (⟨rfl, hJ3⟩ | ⟨rfl, hJ3⟩)
      · gi_wp2
        go_roundw
        case rel => exact .inr ⟨rfl, hJ3⟩
        case measure => decide
      · gi_wp2
        refine bodyPost_ret (results_none rfl _ _ _) rfl ?_
        exact ⟨⟨_, rfl⟩, .inr hJ3⟩
    · gi_wp2
      go_end0
      exact ⟨⟨_, rfl⟩, .inl hJ⟩
set_option maxRecDepth 100000 in
set_option maxHeartbeats 1000000 in
theorem back_none (n l : Nat) (g o : Nat) (q : Option Addr) (cap : Nat) (J0 : World → Prop)
    (W : World) (hp : W.cell? ⟨g, o, none⟩ = some (.slice q 0 cap)) (hpf : W.frozen? ⟨g, o, none⟩ = false) (h0 : J0 W) :
    CallsIn Fence.wide n Tryz.prog 192 #[.func (.yield l) #[] #[], .pointer (some ⟨g, o, none⟩)] W fun e W' => (∃ v, e = .returned v) ∧ J0 W' := by
  refine callsIn_of_wp Tryz.func192 rfl trivial ?_ rfl
  simp only [Tryz.ntmps192, List.size_toArray, List.length_cons, List.length_nil, Nat.reduceAdd, Nat.reduceSub, Array.replicate_succ, Array.replicate_zero, List.push_toArray, List.append_toArray, List.nil_append, List.cons_append]
  gi_wp2
  gi_loopw [3] (fun p wr => p = .int .i64 (-1) ∧ J0 wr) (fun p wr => one0 p)
  case atStart => exact ⟨rfl, h0⟩
  case round =>
    obtain ⟨rfl, hJ⟩ := hrel
    gi_wp2
    go_end0
    exact ⟨⟨_, rfl⟩, hJ⟩
end Go.Proofs.YtaekfgbfpfecdaaGreat.VM

namespace Go.Proofs.YtaekfgbfpfecdaaGreat.VM
open Go Go.RowKit
set_option linter.unusedVariables false
set_option linter.unusedSimpArgs false
set_option linter.unusedSectionVars false

def noItr : Lo → Bool
  | [] => true
  | (_, some (.itr _ _)) :: _ => false
  | _ :: l => noItr l
theorem noItr_ok : ∀ {lo : Lo}, noItr lo = true → ∀ i h p, getA lo i ≠ some (.itr h p)
  | [], _, i, h, p, e => by cases e
  | (j, x) :: l, hn, i, h, p, e => by
    rw [getA_cons] at e
    split at e
    · subst e
      simp only [noItr] at hn
      cases hn
    · refine noItr_ok (lo := l) ?_ i h p e
      cases x with
      | none => exact hn
      | some y => cases y with
        | itr _ _ => simp only [noItr] at hn; cases hn
        | blk _ _ => exact hn
def freeL (env : Env) : List Nat → Bool
  | [] => true
  | d :: l => match getA env d with
    | none => freeL env l
    | some _ => false
theorem freeL_ok {env : Env} : ∀ {l : List Nat}, freeL env l = true → ∀ d ∈ l, getA env d = none
  | [], _, d, h => by cases h
  | x :: l, hf, d, hd => by
    simp only [freeL] at hf
    cases hx : getA env x with
    | some _ => rw [hx] at hf; cases hf
    | none =>
      rw [hx] at hf
      rcases List.mem_cons.1 hd with rfl | hd
      · exact hx
      · exact freeL_ok hf d hd

section any
variable [Df]
/-- New blocks, and blocks of no cells, that come behind, turn nothing. -/
theorem OK.grown {nt : Nat} {G : Nat → Prop} {N : Nm} {lam : Nat → Nat} {env : Env} {lo : Lo} {c : Core} {a : Act} {W W' : World} (h : OK nt G N lam env lo c a W) (hn : noItr lo = true) {row : Option Nat} (hg : W.grownBy W' row) {B : Nat} (hB : ∀ g, G g → g < B)
    (hr : ∀ r, row = some r → B ≤ r ∧ ∃ o : Obj, W.heap[r]? = some o ∧ o.isCells = false) : OK nt G N lam env lo c a W' ∧ Same G W W' ∧ W.heap.size ≤ W'.heap.size := by
  have hcells : ∀ (g : Nat) (arr : Array Value) (ty : TypeId), W.heap[g]? = some (Obj.cells arr ty (0, 0)) → W'.heap[g]? = W.heap[g]? := by
    intro g arr ty hc
    refine hg.block g (Array.getElem?_eq_some_iff.1 hc).1 ?_
    intro e
    obtain ⟨_, o, h1, h2⟩ := hr g e.symm
    rw [hc] at h1
    cases h1
    cases h2
  refine ⟨⟨h.re.mono (Ext.refl N) (fun i e hi => ?_) h.re.off, h.rel.keep (fun b g o k mo sp hb => ?_), h.pools, h.off, h.ing.le hg.size, h.prot, h.nt, h.df⟩, ⟨⟨hg.os, hg.output⟩, fun g hgg => ?_⟩, hg.size⟩
  · cases e with
    | blk l x =>
      obtain ⟨arr, ty, h1, _⟩ := h.re.blk i l x hi
      exact hcells _ _ _ h1
    | itr q p => exact absurd hi (noItr_ok hn i q p)
  · obtain ⟨arr, ty, v, h1, _⟩ := h.rel.cell b g o k mo sp hb
    exact hcells _ _ _ h1
  · refine hg.block g (h.ing g hgg) ?_
    intro e
    have := (hr g e.symm).1
    have := hB g hgg
    omega
theorem After.grown {nt : Nat} {G : Nat → Prop} {N : Nm} {w : World} {env : Env} {lo : Lo} {c : Core} {a : Act} {W W' : World} (h : After nt G N w env lo c a W) (hn : noItr lo = true) {row : Option Nat} (hg : W.grownBy W' row) {B : Nat} (hB : ∀ g, G g → g < B)
    (hr : ∀ r, row = some r → B ≤ r ∧ ∃ o : Obj, W.heap[r]? = some o ∧ o.isCells = false) : After nt G N w env lo c a W' := by
  obtain ⟨N', lam', e, o, s, l⟩ := h
  obtain ⟨o', s', l'⟩ := o.grown hn hg hB hr
  exact ⟨N', lam', e, o', s.trans s', Nat.le_trans l l'⟩
end any
theorem own_after [Df] {nt : Nat} {G : Nat → Prop} {N : Nm} {w : World} {env : Env} {lo lo' : Lo} {c c' : Core} {a : Act} (h1 : noItr lo = true) (h2 : noItr lo' = true) (hB : ∀ g, G g → g < w.heap.size) :
    OwnFrom w.heap.size (fun (s : List Unit) W => match s with
      | [] => After nt G N w env lo c a W
      | [_] => After nt G N w env lo' c' a W
      | _ => False) := by
  intro s W W' row hs hg hr
  match s, hs with
  | [], hs => exact After.grown hs h1 hg hB hr
  | [_], hs => exact After.grown hs h2 hg hB hr
end Go.Proofs.YtaekfgbfpfecdaaGreat.VM

namespace Go.Proofs.YtaekfgbfpfecdaaGreat.VM
open Go Go.RowKit
set_option linter.unusedVariables false
set_option linter.unusedSimpArgs false
set_option linter.unusedSectionVars false
variable {P : Program}

/-- The round's own code: two regions, a branch. -/
def bodyK (I : FI) (r8 r9 r10 : Code) (q : Operand) (env : Env) (lo : Lo) (c : Core) (k : Lo → Core → Bool) : Bool :=
  nmK (den I .reg r8 env lo c) fun env lo c => nmK (den I .reg r9 env lo c) fun env lo c => brK env q (nmK (den I .reg r10 env lo c) fun env lo c => k lo c) (k lo c)
theorem body_ok (hF : Facts P) {I : FI} (hfns : FnsOK P I.fns) {i2 i8 i9 i10 : Nat} {o8 o9 o10 : Array Oper} {q : Operand} (h8 : noDef o8.toList = true) (h9 : noDef o9.toList = true) (h10 : noDef o10.toList = true)
    {ds : List Nat} (hd8 : ∀ d, d ∈ dstsOf o8.toList → d ∈ ds) (hd9 : ∀ d, d ∈ dstsOf o9.toList → d ∈ ds) (hd10 : ∀ d, d ∈ dstsOf o10.toList → d ∈ ds) (env : Env) (lo : Lo) (c : Core) (hn : NoGd env) :
    (∀ k, bodyK I (.region i8 o8 false) (.region i9 o9 false) (.region i10 o10 false) q env lo c k = false) ∨ ∃ env' lo' c', (∀ k, bodyK I (.region i8 o8 false) (.region i9 o9 false) (.region i10 o10 false) q env lo c k = k lo' c') ∧ (∀ t e, t ∉ ds → getA env t = some e → getA env' t = some e) ∧
    ∀ G N lam a w, OK I.nt G N lam env lo c a w → ∀ l n (Q : Exit → Act → World → Prop), (∀ a' w', After I.nt G N w env' lo' c' a' w' → (∀ t, t ∉ ds → a'.tmps[t]? = a.tmps[t]?) → Q .normal a' w') →
      (Code.block i2 (.seq (.region i8 o8 false) (.seq (.region i9 o9 false) (.cond q (.region i10 o10 false) .skip)))).wpIn (Fence.wide.inRound l) n P Q a w := by
  unfold bodyK
  rcases pieceR (P := P) hF hfns (id := i8) h8 env lo c hn with h | ⟨env1, lo1, c1, hn1, e1, f1, r1⟩
  · exact .inl fun k => h _
  simp only [e1]
  rcases pieceR (P := P) hF hfns (id := i9) h9 env1 lo1 c1 hn1 with h | ⟨env2, lo2, c2, hn2, e2, f2, r2⟩
  · exact .inl fun k => h _
  simp only [e2]
  rcases brK_def env2 q with h | ⟨e, t, h1, h2, h3⟩
  · exact .inl fun k => h _ _
  simp only [h3]
  have run12 : ∀ G N lam a w, OK I.nt G N lam env lo c a w → ∀ l n (Q : Exit → Act → World → Prop), (∀ a' w', After I.nt G N w env2 lo2 c2 a' w' → (∀ t, t ∉ ds → a'.tmps[t]? = a.tmps[t]?) → (Code.cond q (.region i10 o10 false) .skip).wpIn (Fence.wide.inRound l) n P Q a' w') →
      (Code.seq (.region i8 o8 false) (.seq (.region i9 o9 false) (.cond q (.region i10 o10 false) .skip))).wpIn (Fence.wide.inRound l) n P Q a w := by
    intro G N lam a w hok l n Q hQ
    refine wpIn_seq (r1 G N lam a w hok l n _ fun a1 w1 A1 k1 => ?_)
    obtain ⟨N1, lam1, x1, ok1, s1, z1⟩ := A1
    refine wpIn_seq (r2 G N1 lam1 a1 w1 ok1 l n _ fun a2 w2 A2 k2 => ?_)
    exact hQ a2 w2 (A2.trans x1 s1 z1) fun t ht => (k2 t fun h => ht (hd9 t h)).trans (k1 t fun h => ht (hd8 t h))
  have f12 : ∀ t e, t ∉ ds → getA env t = some e → getA env2 t = some e := fun t e ht he => f2 t e (fun h => ht (hd9 t h)) (f1 t e (fun h => ht (hd8 t h)) he)
  have hv : ∀ {G N lam a w}, OK I.nt G N lam env2 lo2 c2 a w → a.eval q = .bool t := fun hok => asB_ok h2 (evO_ok hok.pools hok.re h1)
  cases t with
  | false =>
    refine .inr ⟨env2, lo2, c2, fun k => rfl, f12, fun G N lam a w hok l n Q hQ => wpIn_block (run12 G N lam a w hok l n _ fun a' w' A k => ?_)⟩
    obtain ⟨N', lam', x', ok', s', z'⟩ := A
    exact wpIn_cond_false (hv ok') (wpIn_skip (hQ a' w' ⟨N', lam', x', ok', s', z'⟩ k))
  | true =>
    simp only [cond_true]
    rcases pieceR (P := P) hF hfns (id := i10) h10 env2 lo2 c2 hn2 with h | ⟨env3, lo3, c3, hn3, e3, f3, r3⟩
    · exact .inl fun k => h _
    refine .inr ⟨env3, lo3, c3, fun k => e3 _, fun t e ht he => f3 t e (fun h => ht (hd10 t h)) (f12 t e ht he), fun G N lam a w hok l n Q hQ => wpIn_block (run12 G N lam a w hok l n _ fun a' w' A k => ?_)⟩
    obtain ⟨N', lam', x', ok', s', z'⟩ := A
    refine wpIn_cond_true (hv ok') (r3 G N' lam' a' w' ok' l n _ fun a3 w3 A3 k3 => ?_)
    exact hQ a3 w3 (A3.trans x' s' z') fun t ht => (k3 t fun h => ht (hd10 t h)).trans (k t ht)
end Go.Proofs.YtaekfgbfpfecdaaGreat.VM

namespace Go.Proofs.YtaekfgbfpfecdaaGreat.VM
open Go Go.RowKit
set_option linter.unusedVariables false
set_option linter.unusedSimpArgs false
set_option linter.unusedSectionVars false

def en31 : Ent := .n (.one (.int .i64)) true 0
def en32 (x : Nat) : Ent := .n (.one (.int .i64)) true x
def envR (env : Env) (x : Nat) : Env := (6, some (en32 x)) :: (32, some (en32 x)) :: (31, some en31) :: env
/-- The range: nothing, or one round. -/
def rfK (I : FI) (ds : List Nat) (r8 r9 r10 : Code) (q g : Operand) (env : Env) (lo : Lo) (c : Core) (k : Lo → Core → Bool) : Bool :=
  match evO env g with
  | some (.n (.one .fn) _ x) => cond (noItr lo && freeL env ds) (cond (Nat.beq (Nat.land x 1023) 193)
    (force (rd c.m (fcap x 0) 1) (fun sl => cond (Nat.beq (sln sl) 0) (k lo c)
      (cond (Nat.beq (sln sl) 1) (cond (Nat.beq (deadBits c.d (slp sl) 1) 0)
        (force (rd c.m (slp sl) 1) (fun y => bodyK I r8 r9 r10 q (envR env y) lo c (fun lo c => cond (noItr lo) (k lo c) false))) false) false))) false) false
  | _ => false
/-- What a frame bears behind an outermost range. -/
abbrev dfD (D : Nat) : Df := ⟨[{ target := .collected D, args := #[] }]⟩
theorem cap192 : capT 192 = [[.sli 3]] := by kernel_rfl
theorem lay3 : lay 3 = [.int .i64] := by kernel_rfl
theorem enter192 (args : Array Value) (w : World) : (callFunc 192 args).run Tryz.prog w = .ok (.enter 192 args) w :=
  callFunc_enter Tryz.func192 (code := bodyOf Tryz.f192) (by kernel_rfl) (by kernel_rfl) args w
/-- The range's behind: the frame with its mark. -/
def Behind (nt : Nat) (G : Nat → Prop) (N : Nm) (w : World) (env : Env) (lo : Lo) (c : Core) (a : Act) (D : Nat) (w' : World) : Prop :=
  w.heap.size ≤ D ∧ w'.heap[D]? = some (.deferred (some [])) ∧ @After dfNil nt G N w env lo c a w'
theorem assign_ok {F : Fence} {n i7 : Nat} {ty7 : TypeId} {po7 : String} {af7 : Array Edge} {tm : Array Value} (hs : 32 < tm.size) (v0 v : Value) (W : World) (K : Act → World → Prop) (h : K { tmps := ((tm.setIfInBounds 31 v0).setIfInBounds 32 v).setIfInBounds 6 v, defers := [] } W) (hf : ∀ f, F.fn f) :
    (Code.region i7 #[{ dst := some 6, op := .assign (.tmp 32), type := ty7, pos := po7, after := af7, guard := none }] false).wpIn F n Tryz.prog (Exit.then K (fun _ _ _ => False)) { tmps := ((#[31, 32] : Array Tmp).zip #[v0, v]).foldl (fun t (p, v) => t.setIfInBounds p v) tm, defers := [] } W := by
  have e : ((#[31, 32] : Array Tmp).zip #[v0, v]).foldl (fun t (p, v) => t.setIfInBounds p v) tm = (tm.setIfInBounds 31 v0).setIfInBounds 32 v := by simp [← Array.foldl_toList]
  rw [e]
  refine wpIn_region ?_
  have e2 : List.range (#[({ dst := some 6, op := .assign (.tmp 32), type := ty7, pos := po7, after := af7, guard := none } : Oper)]).size = [0] := rfl
  rw [e2]
  simp only [wpOpsIn]
  have e3 : (#[({ dst := some 6, op := .assign (.tmp 32), type := ty7, pos := po7, after := af7, guard := none } : Oper)])[0]? = some { dst := some 6, op := .assign (.tmp 32), type := ty7, pos := po7, after := af7, guard := none } := rfl
  rw [e3]
  simp only [Region.wanted, if_true]
  refine ⟨fun f _ => hf f, ?_⟩
  rw [Oper.semAt_eq _ _ _ (fun c h => by cases h)]
  have e4 : (execOp (Act.eval { tmps := (tm.setIfInBounds 31 v0).setIfInBounds 32 v, defers := [] }) { dst := some 6, op := .assign (.tmp 32), type := ty7, pos := po7, after := af7, guard := none }).run Tryz.prog W = .ok (.value v) W := by
    have : (Act.eval { tmps := (tm.setIfInBounds 31 v0).setIfInBounds 32 v, defers := [] }) (.tmp 32) = v := by
      simp [Act.eval, Array.getD, hs]
    simp [execOp, this]
  rw [e4]
  exact h
theorem rf_ok (hF : Facts Tryz.prog) {I : FI} (hfns : FnsOK Tryz.prog I.fns) {i2 i7 i8 i9 i10 : Nat} {ty7 : TypeId} {po7 : String} {af7 : Array Edge} {o8 o9 o10 : Array Oper} {q g : Operand} (h8 : noDef o8.toList = true) (h9 : noDef o9.toList = true) (h10 : noDef o10.toList = true)
    {ds : List Nat} (hd8 : ∀ d, d ∈ dstsOf o8.toList → d ∈ ds) (hd9 : ∀ d, d ∈ dstsOf o9.toList → d ∈ ds) (hd10 : ∀ d, d ∈ dstsOf o10.toList → d ∈ ds) (hd6 : 6 ∈ ds ∧ 31 ∈ ds ∧ 32 ∈ ds) (hnt : 32 < I.nt) (env : Env) (lo : Lo) (c : Core) (hn : NoGd env) :
    (∀ k, rfK I ds (.region i8 o8 false) (.region i9 o9 false) (.region i10 o10 false) q g env lo c k = false) ∨ ∃ lo' c', (∀ k, rfK I ds (.region i8 o8 false) (.region i9 o9 false) (.region i10 o10 false) q g env lo c k = k lo' c') ∧
    ∀ G N lam a w, OK I.nt G N lam env lo c a w → ∀ (Q : Exit → Act → World → Prop), (∀ D w', Behind I.nt G N w env lo' c' a D w' → Q .normal { a with defers := { target := .collected D, args := #[] } :: a.defers } w') →
      (Code.rangeFunc g #[31, 32] (.region i7 #[{ dst := some 6, op := .assign (.tmp 32), type := ty7, pos := po7, after := af7, guard := none }] false)
        (Code.block i2 (.seq (.region i8 o8 false) (.seq (.region i9 o9 false) (.cond q (.region i10 o10 false) .skip))))).wp Tryz.prog Q a w := by
  unfold rfK
  split
  case h_2 => exact .inl fun k => rfl
  next fl x hx =>
  cases hb : (noItr lo && freeL env ds) with
  | false => exact .inl fun k => rfl
  | true =>
  rw [Bool.and_eq_true] at hb
  obtain ⟨hlo, hfree⟩ := hb
  cases hb : Nat.beq (Nat.land x 1023) 193 with
  | false => exact .inl fun k => rfl
  | true =>
  have hland := Nat.eq_of_beq_eq_true hb
  simp only [cond_true, force_eq]
  generalize hsl : rd c.m (fcap x 0) 1 = sl
  have what : ∀ {G N lam a w}, OK I.nt G N lam env lo c a w → ∃ g' o v, a.eval g = .func (.func 192) #[] #[.pointer (some ⟨g', o, none⟩)] ∧ w.cell? ⟨g', o, none⟩ = some v ∧ w.frozen? ⟨g', o, none⟩ = false ∧ g' < w.heap.size ∧ RS N [.int .i64] sl v := by
    intro G N lam a w hok
    have hv := evO_ok hok.pools hok.re hx
    simp only [REnt, RSh, RK, RF] at hv
    rcases hv.2 with ⟨rfl, _⟩ | ⟨g0, vs, h1, h2, h3, h4⟩
    · cases hland
    · have hg0 : g0 = 192 := by omega
      subst hg0
      rw [cap192] at h3
      simp only [cap192] at h4
      obtain ⟨g', o, h5, h6, h7⟩ := h4 0 (by decide) (by rw [h3]; decide)
      have hvs : vs = #[.pointer (some ⟨g', o, none⟩)] := by
        apply Array.ext
        · rw [h3]; rfl
        · intro i hi1 hi2
          have : i = 0 := by simp at hi2; exact hi2
          subst this
          exact h5
      obtain ⟨aa, arr, ty, e1, e2, e3, e4, e5, e6⟩ := RP.row hok.rel h6 (by decide) (fun h => by cases h)
      obtain ⟨_, v, e7, e8⟩ := e6 0 (by decide)
      refine ⟨g', o, v, by rw [h2, hvs], by simpa [World.cell?, e3] using e7, by simp [World.frozen?, e3], (Array.getElem?_eq_some_iff.1 e3).1, ?_⟩
      have e9 : RK N (.sli 3) (lane c.m (aa + 0)) v := e8
      simp only [RK, lay3] at e9
      have : sl = lane c.m (aa + 0) := by
        rw [← hsl, e1]
        have h8 := lane_rd c.m aa 1 0
        rw [if_pos (by decide), lane_one (rd_lt _ _ _)] at h8
        exact h8
      rw [this]
      exact e9
  cases h0 : Nat.beq (sln sl) 0 with
  | true =>
    have h0 := Nat.eq_of_beq_eq_true h0
    refine .inr ⟨lo, c, fun k => rfl, fun G N lam a w hok Q hQ => ?_⟩
    obtain ⟨g', o, v, hg, hc, hf, hlt, hrs⟩ := what hok
    obtain ⟨qa, cap, rfl⟩ : ∃ qa cap, v = .slice qa 0 cap := by
      rcases hrs with ⟨_, rfl⟩ | ⟨_, a', c', rfl⟩ | ⟨_, _, _, c', _, _, rfl, _⟩
      · exact ⟨_, _, rfl⟩
      · exact ⟨_, _, rfl⟩
      · rw [h0]; exact ⟨_, _, rfl⟩
    refine (wpIn_wide (n := 5)).1 ?_
    refine (wpIn_rangeFunc_ownF (α := Unit) rfl (by decide) hg trivial enter192 (encs := fun _ => #[.int .i64 0, .int .i64 0]) (Kp := fun _ _ => True) (S := fun xs => xs = []) (Sp := fun _ => False) (N := 0) (w0 := w) ?_ (fun _ _ => trivial) (fun _ _ _ _ _ _ _ _ => trivial) (Below.refl _ _) (fun _ => rfl)
      (fun s W => match s with | [] => After I.nt G N w env lo c a W | [_] => After I.nt G N w env lo c a W | _ => False) (fun _ _ _ => False) (own_after hlo hlo hok.ing) (fun _ _ _ _ _ h => h.elim) hok.after (fun _ => { tmps := ((a.tmps.setIfInBounds 31 (.int .i64 0)).setIfInBounds 32 (.int .i64 0)).setIfInBounds 6 (.int .i64 0), defers := [] }) ?_ ?_ ?_ ?_)
    · intro l J Jx W hW _ _ hY hJ
      exact (back_none 4 l g' o qa cap (J []) W ((hW.cell hlt).trans hc) ((hW.frozen hlt).trans hf) hJ).mono fun e W' h => ⟨h.1, .inl ⟨[], rfl, h.2⟩⟩
    · intro l x' W K hK
      exact assign_ok (by rw [hok.nt]; exact hnt) _ _ W K hK (fun _ => trivial)
    · intro l pre x' W _ h
      exact absurd h (Nat.not_lt_zero _)
    · intro D xs W hD hS hI hdd
      subst hS
      exact hQ D W ⟨hD, hdd, hI⟩
    · intro D c' pre W _ h
      exact h.elim
  | false =>
  simp only [cond_false]
  cases h1 : Nat.beq (sln sl) 1 with
  | false => exact .inl fun k => rfl
  | true =>
  have h1 := Nat.eq_of_beq_eq_true h1
  simp only [cond_true]
  cases hdead : Nat.beq (deadBits c.d (slp sl) 1) 0 with
  | false => exact .inl fun k => rfl
  | true =>
  simp only [cond_true]
  generalize hy : rd c.m (slp sl) 1 = y
  have hnR : NoGd (envR env y) := by
    intro i s w b e h
    simp only [envR, getA_cons] at h
    split at h
    · cases h
    · split at h
      · cases h
      · split at h
        · cases h
        · exact hn _ _ _ _ _ h
  rcases body_ok hF hfns (i2 := i2) (i8 := i8) (i9 := i9) (i10 := i10) (q := q) h8 h9 h10 hd8 hd9 hd10 (envR env y) lo c hnR with h | ⟨envf, lof, cf, hd, hfr, hrun⟩
  · exact .inl fun k => h _
  simp only [hd]
  cases hl : noItr lof with
  | false => exact .inl fun k => rfl
  | true =>
  refine .inr ⟨lof, cf, fun k => rfl, fun G N lam a w hok Q hQ => ?_⟩
  obtain ⟨g', o, v, hg, hc, hf, hlt, hrs⟩ := what hok
  obtain ⟨g1, o1, cap, rfl, hq, hqf, hql, hyl⟩ : ∃ g1 o1 cap, v = .slice (some ⟨g1, o1, none⟩) 1 cap ∧ w.cell? ⟨g1, o1, none⟩ = some (.int .i64 (decI .i64 y)) ∧ w.frozen? ⟨g1, o1, none⟩ = false ∧ g1 < w.heap.size ∧ y < limK .i64 := by
    rcases hrs with ⟨e, _⟩ | ⟨e, _⟩ | ⟨aa, g1, o1, cc, e1, e2, e3, e4, e5, e6, e7, e8⟩
    · subst e; rw [sln_zero] at h1; cases h1
    · subst e; rw [sln_B63] at h1; cases h1
    · rw [h1] at e3 e4
      have e9 := e7 0 (by simp; omega)
      have hna : N.ln (aa + 0) ≠ some .dead := by
        intro e
        have d1 := hok.rel.dead _ e
        have d2 := deadBits_ok hdead 0 (by decide)
        rw [e1, Nat.mul_div_cancel_left _ (by decide : 0 < 64), d1] at d2
        cases d2
      rcases e9 with e | ⟨m, sp, e10, _⟩
      · exact absurd e hna
      · obtain ⟨arr, ty, v, f1, f2, f3, f4⟩ := hok.rel.cell _ _ _ _ _ _ e10
        have f3 : RK N (.int .i64) (lane c.m (aa + 0)) v := f3
        have hyy : y = lane c.m (aa + 0) := by
          rw [← hy, e1]
          have h8 := lane_rd c.m aa 1 0
          rw [if_pos (by decide), lane_one (rd_lt _ _ _)] at h8
          exact h8
        rw [← hyy] at f3
        simp only [RK] at f3
        refine ⟨g1, o1, cc, e3, ?_, by simp [World.frozen?, f1], (Array.getElem?_eq_some_iff.1 f1).1, f3.2⟩
        rw [← f3.1]
        simpa [World.cell?, f1] using f2
  have hsz : 32 < a.tmps.size := by rw [hok.nt]; exact hnt
  have l6 : (((a.tmps.setIfInBounds 31 (.int .i64 0)).setIfInBounds 32 (.int .i64 (decI .i64 y))).setIfInBounds 6 (.int .i64 (decI .i64 y)))[6]? = some (.int .i64 (decI .i64 y)) := by
    rw [Array.getElem?_setIfInBounds, if_pos rfl, if_pos (by simp; omega)]
  have l32 : (((a.tmps.setIfInBounds 31 (.int .i64 0)).setIfInBounds 32 (.int .i64 (decI .i64 y))).setIfInBounds 6 (.int .i64 (decI .i64 y)))[32]? = some (.int .i64 (decI .i64 y)) := by
    rw [Array.getElem?_setIfInBounds_ne (by decide), Array.getElem?_setIfInBounds, if_pos rfl, if_pos (by simp; omega)]
  have l31 : (((a.tmps.setIfInBounds 31 (.int .i64 0)).setIfInBounds 32 (.int .i64 (decI .i64 y))).setIfInBounds 6 (.int .i64 (decI .i64 y)))[31]? = some (.int .i64 0) := by
    rw [Array.getElem?_setIfInBounds_ne (by decide), Array.getElem?_setIfInBounds_ne (by decide), Array.getElem?_setIfInBounds, if_pos rfl, if_pos (by omega)]
  have hlook : ∀ i, i ≠ 6 → i ≠ 31 → i ≠ 32 → (((a.tmps.setIfInBounds 31 (.int .i64 0)).setIfInBounds 32 (.int .i64 (decI .i64 y))).setIfInBounds 6 (.int .i64 (decI .i64 y)))[i]? = a.tmps[i]? := by
    intro i h6 h31 h32
    rw [Array.getElem?_setIfInBounds_ne (Ne.symm h6), Array.getElem?_setIfInBounds_ne (Ne.symm h32), Array.getElem?_setIfInBounds_ne (Ne.symm h31)]
  refine (wpIn_wide (n := 5)).1 ?_
  refine (wpIn_rangeFunc_ownF (α := Unit) rfl (by decide) hg trivial enter192 (encs := fun _ => #[.int .i64 0, .int .i64 (decI .i64 y)]) (Kp := fun _ _ => True) (S := fun xs => xs = [()]) (Sp := fun _ => True) (N := 1) (w0 := w) ?_ (fun _ _ => trivial) (fun _ _ _ _ _ _ _ _ => trivial) (Below.refl _ _) (fun _ => rfl)
    (fun s W => match s with | [] => After I.nt G N w env lo c a W | [_] => After I.nt G N w env lof cf a W | _ => False) (fun _ _ _ => False) (own_after hlo hl hok.ing) (fun _ _ _ _ _ h => h.elim) hok.after (fun _ => { tmps := ((a.tmps.setIfInBounds 31 (.int .i64 0)).setIfInBounds 32 (.int .i64 (decI .i64 y))).setIfInBounds 6 (.int .i64 (decI .i64 y)), defers := [] }) ?_ ?_ ?_ ?_)
  · intro l J Jx W hW _ _ hY hJ
    refine (back_one 4 l (by decide) g' o g1 o1 cap (decI .i64 y) (J []) (J [()]) (Jx [()]) (fun W1 h => ?_) W ((hW.cell hlt).trans hc) ((hW.frozen hlt).trans hf) ((hW.cell hql).trans hq) ((hW.frozen hql).trans hqf) hJ).mono fun e W' h => ⟨h.1, h.2.elim (fun h => .inl ⟨[()], rfl, h⟩) (fun h => .inr ⟨[()], trivial, h⟩)⟩
    obtain ⟨fn, tmps, asn, bo, h1, h2⟩ := hY [] () W1 h (by decide)
    exact ⟨fn, tmps, asn, bo, h1, h2.mono fun e W' h => h.imp (fun h => ⟨h.1, h.2.1⟩) id⟩
  · intro l x' W K hK
    exact assign_ok hsz _ _ W K hK (fun _ => trivial)
  · intro l pre x' W hI hpre
    have : pre = [] := List.eq_nil_of_length_eq_zero (by omega)
    subst this
    obtain ⟨N1, lam1, x1, ok1, s1, z1⟩ := hI
    have okr : OK I.nt (fun g => G g ∨ ∃ o, W.heap[g]? = some o ∧ o.isCells = false) N1 lam1 (envR env y) lo c { tmps := ((a.tmps.setIfInBounds 31 (.int .i64 0)).setIfInBounds 32 (.int .i64 (decI .i64 y))).setIfInBounds 6 (.int .i64 (decI .i64 y)), defers := [] } W := by
      refine ⟨⟨fun i e hi => ?_, fun i s want gb e hi => absurd hi (hnR _ _ _ _ _), ok1.re.blk, ok1.re.itr, ok1.re.off, ok1.re.inj⟩, ok1.rel, ok1.pools, fun g b o k mo sp hg hb => ?_, fun g hg => ?_, fun i e hi hg => ?_, by simpa using hok.nt, rfl⟩
      · simp only [envR, getA_cons] at hi
        have hval : REnt N1 lam1 (en32 y) (.int .i64 (decI .i64 y)) := by
          show y < 2 ^ 64 ∧ (Value.int .i64 (decI .i64 y) = Value.int .i64 (decI .i64 y) ∧ y < limK .i64)
          have : limK .i64 ≤ 2 ^ 64 := by decide
          exact ⟨Nat.lt_of_lt_of_le hyl this, rfl, hyl⟩
        split at hi
        · next h => cases hi; subst h; exact ⟨_, l6, hval⟩
        · next h6 =>
          split at hi
          · next h => cases hi; subst h; exact ⟨_, l32, hval⟩
          · next h32 =>
            split at hi
            · next h =>
              cases hi; subst h
              refine ⟨.int .i64 0, l31, ?_⟩
              show 0 < 2 ^ 64 ∧ (Value.int .i64 0 = Value.int .i64 (decI .i64 0) ∧ 0 < limK .i64)
              exact ⟨by decide, rfl, by decide⟩
            · next h31 =>
              obtain ⟨v, h2, h3⟩ := ok1.re.slot i e hi
              exact ⟨v, (hlook i (Ne.symm h6) (Ne.symm h31) (Ne.symm h32)).trans h2, h3⟩
      · rcases hg with hg | ⟨o, h2, h3⟩
        · exact ok1.off g b _ k mo sp hg hb
        · obtain ⟨arr, ty, v, f1, _⟩ := ok1.rel.cell _ _ _ _ _ _ hb
          rw [f1] at h2; cases h2; cases h3
      · rcases hg with hg | ⟨o, h2, h3⟩
        · exact ok1.ing g hg
        · exact (Array.getElem?_eq_some_iff.1 h2).1
      · rcases hg with hg | ⟨o, h2, h3⟩
        · exact ok1.prot i e hi hg
        · cases e with
          | blk l x =>
            obtain ⟨arr, ty, f1, _⟩ := ok1.re.blk i l x hi
            rw [f1] at h2; cases h2; cases h3
          | itr q p => exact noItr_ok hlo i q p hi
    refine hrun _ N1 lam1 _ W okr l 3 _ fun a' W' A hk => ?_
    obtain ⟨N2, lam2, x2, ok2, s2, z2⟩ := A
    refine ⟨⟨z2, fun k o hk ho => (s2.2 k (.inr ⟨o, hk, ho⟩)).trans hk⟩, trivial, N2, lam2, x1.trans x2, ?_, s1.trans ⟨s2.1, fun g hg => s2.2 g (.inl hg)⟩, Nat.le_trans z1 z2⟩
    refine ⟨⟨fun i e hi => ?_, fun i s want gb e hi => absurd hi (hn _ _ _ _ _), ok2.re.blk, ok2.re.itr, ok2.re.off, ok2.re.inj⟩, ok2.rel, ok2.pools, fun g b o k mo sp hg hb => ok2.off g b o k mo sp (.inl hg) hb, ok1.ing.le z2, fun i e hi hg => ok2.prot i e hi (.inl hg), ok1.nt, ok1.df⟩
    have hids : i ∉ ds := fun h => by have := freeL_ok hfree i h; rw [hi] at this; cases this
    have n6 : i ≠ 6 := fun h => hids (h ▸ hd6.1)
    have n31 : i ≠ 31 := fun h => hids (h ▸ hd6.2.1)
    have n32 : i ≠ 32 := fun h => hids (h ▸ hd6.2.2)
    have g1 : getA (envR env y) i = some e := by
      simp only [envR, getA_cons, if_neg (Ne.symm n6), if_neg (Ne.symm n31), if_neg (Ne.symm n32)]
      exact hi
    obtain ⟨v', h2, h3⟩ := ok2.re.slot i e (hfr i e hids g1)
    refine ⟨v', ?_, h3⟩
    rw [hk i hids] at h2
    exact (hlook i n6 n31 n32).symm.trans h2
  · intro D xs W hD hS hI hdd
    subst hS
    exact hQ D W ⟨hD, hdd, hI⟩
  · intro D c' pre W _ _ h
    exact h.elim
end Go.Proofs.YtaekfgbfpfecdaaGreat.VM

namespace Go.Proofs.YtaekfgbfpfecdaaGreat.VM
open Go Go.RowKit
set_option linter.unusedVariables false
set_option linter.unusedSimpArgs false
set_option linter.unusedSectionVars false

theorem pieceAll {I : FI} {an : An} (hG : ∀ df : Df, @Good df Tryz.prog I an) (x : Code) (env : Env) (lo : Lo) (c : Core) (hn : NoGd env) : (∀ k, nmK (den I an x env lo c) k = false) ∨ ∃ env' lo' c', NoGd env' ∧ (∀ k, nmK (den I an x env lo c) k = k env' lo' c') ∧
    ∀ (df : Df) G N lam a w, @OK df I.nt G N lam env lo c a w → ∀ Q : Exit → Act → World → Prop, (∀ a' w', @After df I.nt G N w env' lo' c' a' w' → Q .normal a' w') → x.wp Tryz.prog Q a w := by
  rcases @piece Tryz.prog dfNil I an (hG _) x env lo c hn with h | ⟨env1, lo1, c1, hn1, hd, _⟩
  · exact .inl h
  · refine .inr ⟨env1, lo1, c1, hn1, hd, fun df => ?_⟩
    rcases @piece Tryz.prog df I an (hG _) x env lo c hn with h | ⟨env2, lo2, c2, hn2, hd2, hr⟩
    · have h1 := hd fun _ _ _ => true
      rw [h] at h1; cases h1
    · obtain ⟨rfl, rfl, rfl⟩ := one_end fun k => (hd k).symm.trans (hd2 k)
      exact hr

def sqA : Code → Code | .seq a _ => a | c => c
def sqB : Code → Code | .seq _ b => b | c => c
def blA : Code → Code | .block _ a => a | c => c
def cdA : Code → Code | .cond _ a _ => a | c => c
def cdB : Code → Code | .cond _ _ b => b | c => c
def rfB : Code → Code | .rangeFunc _ _ _ b => b | c => c
def opsOf : Code → Array Oper | .region _ o _ => o | _ => #[]
noncomputable def m0 : Code := bodyOf Tryz.f95
noncomputable def mB : Code := blA (sqB (sqA (sqB (sqB m0))))
noncomputable def mC : Code := sqB (cdB (sqB mB))
noncomputable def mR : Code := rfB (blA (sqB (cdA mC)))
noncomputable def mT : Code := sqB (sqB (sqB m0))
noncomputable def o95 : Nat → Array Oper
  | 0 => opsOf (sqA m0) | 1 => opsOf (sqA (sqB m0)) | 2 => opsOf (sqA (sqA (sqB (sqB m0)))) | 3 => opsOf (sqA mB) | 4 => opsOf (cdA (sqB mB))
  | 5 => opsOf (sqA (cdB (sqB mB))) | 6 => opsOf (sqA (cdA mC)) | 8 => opsOf (sqA (blA mR)) | 9 => opsOf (sqA (sqB (blA mR))) | 10 => opsOf (cdA (sqB (sqB (blA mR))))
  | 11 => opsOf (sqA mT) | _ => opsOf (cdA (sqB mT))
noncomputable def rg (i : Nat) (d : Bool) : Code := .region i (o95 i) d
noncomputable def tail95 : Code := .seq (rg 11 true) (.cond (.tmp 61) (rg 12 true) .skip)
theorem shape95 : bodyOf Tryz.f95 = .seq (rg 0 false) (.seq (rg 1 false) (.seq (.seq (rg 2 false) (.block 0 (.seq (rg 3 false) (.cond (.tmp 14) (rg 4 false) (.seq (rg 5 false) (.cond (.tmp 25) (.seq (rg 6 false)
    (.block 1 (.rangeFunc (.tmp 30) #[31, 32] (.region 7 #[{ dst := some 6, op := .assign (.tmp 32), type := 3, pos := "node.go:396", after := #[], guard := none }] false)
      (.block 2 (.seq (rg 8 false) (.seq (rg 9 false) (.cond (.tmp 39) (rg 10 false) .skip))))))) .skip)))))) tail95)) := by kernel_rfl
noncomputable def d95 : List Nat := [6, 31, 32, 34, 35, 36, 33, 37, 38, 7, 8, 39, 40, 41]

def subL (l m : List Nat) : Bool := match l with
  | [] => true
  | d :: l => memN d m && subL l m
theorem memL {l m : List Nat} (h : subL l m = true) : ∀ d, d ∈ l → d ∈ m := by
  induction l with
  | nil => intro d hd; cases hd
  | cons x l ih =>
    simp only [subL, Bool.and_eq_true] at h
    intro d hd
    rcases List.mem_cons.1 hd with rfl | hd
    · exact (memN_eq _ _).1 h.1
    · exact ih h.2 d hd

noncomputable def tailK (I : FI) (p1 p2 : List (Nat × Nat)) (env : Env) (lo : Lo) (c : Core) (k : List Nat → Core → Bool) : Bool :=
  nmK (den I (.drw p1) (rg 11 true) env lo c) fun env lo c => brK env (.tmp 61) (nmK (den I (.drw p2) (rg 12 true) env lo c) fun env lo c => k [] c) (k [] c)
theorem tail_ok {I : FI} {p1 p2 : List (Nat × Nat)} (hG : ∀ p (df : Df), @Good df Tryz.prog I (.drw p)) (env : Env) (lo : Lo) (c : Core) (hn : NoGd env) : (∀ k, tailK I p1 p2 env lo c k = false) ∨ ∃ env' lo' c', (∀ k, tailK I p1 p2 env lo c k = k [] c') ∧
    ∀ (df : Df) G N lam a w, @OK df I.nt G N lam env lo c a w → ∀ Q : Exit → Act → World → Prop, (∀ a' w', @After df I.nt G N w env' lo' c' a' w' → Q .normal a' w') → tail95.wp Tryz.prog Q a w := by
  unfold tailK
  rcases pieceAll (hG p1) (rg 11 true) env lo c hn with h | ⟨env1, lo1, c1, hn1, e1, r1⟩
  · exact .inl fun k => h _
  simp only [e1]
  rcases brK_def env1 (.tmp 61) with h | ⟨e, t, h1, h2, h3⟩
  · exact .inl fun k => h _ _
  simp only [h3]
  have hv : ∀ {df : Df} {G N lam a w}, OK I.nt G N lam env1 lo1 c1 a w → a.eval (.tmp 61) = .bool t := fun hok => asB_ok h2 (evO_ok hok.pools hok.re h1)
  cases t with
  | false =>
    refine .inr ⟨env1, lo1, c1, fun k => rfl, fun df G N lam a w hok Q hQ => wp_seq (r1 df G N lam a w hok _ fun a' w' A => ?_)⟩
    obtain ⟨N', lam', x', ok', s', z'⟩ := A
    exact wp_cond_false (hv ok') (wp_skip (hQ a' w' ⟨N', lam', x', ok', s', z'⟩))
  | true =>
    simp only [cond_true]
    rcases pieceAll (hG p2) (rg 12 true) env1 lo1 c1 hn1 with h | ⟨env2, lo2, c2, hn2, e2, r2⟩
    · exact .inl fun k => h _
    refine .inr ⟨env2, lo2, c2, fun k => e2 _, fun df G N lam a w hok Q hQ => wp_seq (r1 df G N lam a w hok _ fun a' w' A => ?_)⟩
    obtain ⟨N', lam', x', ok', s', z'⟩ := A
    exact wp_cond_true (hv ok') (r2 df G N' lam' a' w' ok' _ fun a2 w2 A2 => hQ a2 w2 (A2.trans x' s' z'))

noncomputable def F95 (I : FI) (ps : List Sh) (p1 p2 : List (Nat × Nat)) (l : List Nat) (c : Core) (k : List Nat → Core → Bool) : Bool :=
  nmK (den I .reg (rg 0 false) (argEnv ps l 0) [] c) fun env lo c =>
  nmK (den I .reg (rg 1 false) env lo c) fun env lo c =>
  nmK (den I .reg (rg 2 false) env lo c) fun env lo c =>
  nmK (den I .reg (rg 3 false) env lo c) fun env lo c =>
  brK env (.tmp 14) (nmK (den I .reg (rg 4 false) env lo c) fun env lo c => tailK I p1 p2 env lo c k)
    (nmK (den I .reg (rg 5 false) env lo c) fun env lo c => brK env (.tmp 25)
      (nmK (den I .reg (rg 6 false) env lo c) fun env lo c => rfK I d95 (rg 8 false) (rg 9 false) (rg 10 false) (.tmp 39) (.tmp 30) env lo c fun lo c => tailK I p1 p2 env lo c k)
      (tailK I p1 p2 env lo c k))
/-- What is asked at the function's end. -/
theorem end_none {nt : Nat} {G : Nat → Prop} {N : Nm} {w0 : World} {env : Env} {lo : Lo} {c : Core} {a : Act} {w : World} (h : @After dfNil nt G N w0 env lo c a w) {R : Ending → World → Prop} (hR : ∀ v w', Post G N w0 [] [] c v w' → R (.returned v) w') :
    bodyPostM Fence.wide 5 Tryz.prog Tryz.f95 R .normal a w := by
  obtain ⟨N', lam', x, ok, s, z⟩ := h
  show LeavesInM Fence.wide 5 Tryz.prog Tryz.f95 a.tmps R a.defers .returning w
  rw [ok.df]
  show ∃ v, (results Tryz.f95 a.tmps).run Tryz.prog w = .ok v w ∧ R (.returned v) w
  exact ⟨_, results_none rfl _ _ _, hR _ _ ⟨N', x, ok.rel, ok.off, s, z, .inr ⟨by decide, #[], rfl, trivial⟩⟩⟩
theorem end_mark {nt : Nat} {G : Nat → Prop} {N : Nm} {w0 w1 : World} {env : Env} {lo : Lo} {c : Core} {a : Act} {w : World} {D : Nat} {N1 : Nm} (hx : Ext N N1) (hs : Same G w0 w1) (hz : w0.heap.size ≤ w1.heap.size) (hD : ∀ g, G g → g ≠ D) (hd : w1.heap[D]? = some (.deferred (some [])))
    (h : @After (dfD D) nt (fun g => G g ∨ g = D) N1 w1 env lo c a w) {R : Ending → World → Prop} (hR : ∀ v w', Post G N w0 [] [] c v w' → R (.returned v) w') :
    bodyPostM Fence.wide 5 Tryz.prog Tryz.f95 R .normal a w := by
  letI : Df := dfD D
  obtain ⟨N', lam', x, ok, s, z⟩ := h
  have hd2 : w.heap[D]? = some (.deferred (some [])) := (s.2 D (.inr rfl)).trans hd
  show LeavesInM Fence.wide 5 Tryz.prog Tryz.f95 a.tmps R a.defers .returning w
  have hdf : a.defers = [{ target := .collected D, args := #[] }] := ok.df
  rw [hdf]
  refine ⟨(fun h => by cases h), .inl ⟨D, _, rfl, run_takeDeferred hd2, ?_⟩⟩
  show ∃ v, (results Tryz.f95 a.tmps).run Tryz.prog (w.putObj D (.deferred none)) = .ok v (w.putObj D (.deferred none)) ∧ R (.returned v) (w.putObj D (.deferred none))
  refine ⟨_, results_none rfl _ _ _, hR _ _ ⟨N', hx.trans x, ok.rel.keep fun b g o k mo sp hb => ?_, fun g b o k mo sp hg => ok.off g b o k mo sp (.inl hg), ⟨⟨s.1.1.trans hs.1.1, s.1.2.trans hs.1.2⟩, fun g hg => ?_⟩, ?_, .inr ⟨by decide, #[], rfl, trivial⟩⟩⟩
  · obtain ⟨arr, ty, v, h1, _⟩ := ok.rel.cell _ _ _ _ _ _ hb
    refine World.putObj_heap_other fun e => ?_
    rw [e, hd2] at h1; cases h1
  · rw [World.putObj_heap_other (hD g hg), s.2 g (.inl hg)]
    exact hs.2 g hg
  · rw [World.putObj_size]; exact Nat.le_trans hz z
set_option maxRecDepth 100000 in
theorem f95_ok (hF : Facts Tryz.prog) (hm : Tryz.prog.follows .mixedOrders = true) {I : FI} (hfns : FnsOK Tryz.prog I.fns) (hnt : Tryz.f95.ntmps = I.nt) {ps rs : List Sh} (hps : Nat.ble ps.length I.nt = true) (hrs : rs = []) {p1 p2 : List (Nat × Nat)}
    {F : List Nat → Core → (List Nat → Core → Bool) → Bool} (e : AllN ps.length fun l => ∀ m t s d k, F95 I ps p1 p2 l ⟨m, t, s, d⟩ k = F l ⟨m, t, s, d⟩ k) : FunOK Tryz.prog 95 ⟨ps, rs, F⟩ := by
  subst hrs
  refine FunOK.wrap (F := F95 I ps p1 p2) ?_ e
  have hreg : ∀ df : Df, @Good df Tryz.prog I .reg := fun df => (den_ok hF hm hfns .reg).1 rfl
  have hdrw : ∀ p (df : Df), @Good df Tryz.prog I (.drw p) := fun p df => (den_ok hF hm hfns (.drw p)).1 rfl
  have h32 : 32 < I.nt := by rw [← hnt]; decide
  intro l c hl
  simp only at hl ⊢
  have hll : l.length = ps.length := hl
  unfold F95
  rcases pieceAll hreg (rg 0 false) (argEnv ps l 0) [] c (argEnv_noGd _ _ _) with h | ⟨env0, lo0, c0, n0, e0, r0⟩
  · exact .inl fun k => h _
  simp only [e0]
  rcases pieceAll hreg (rg 1 false) env0 lo0 c0 n0 with h | ⟨env1, lo1, c1, n1, e1, r1⟩
  · exact .inl fun k => h _
  simp only [e1]
  rcases pieceAll hreg (rg 2 false) env1 lo1 c1 n1 with h | ⟨env2, lo2, c2, n2, e2, r2⟩
  · exact .inl fun k => h _
  simp only [e2]
  rcases pieceAll hreg (rg 3 false) env2 lo2 c2 n2 with h | ⟨env3, lo3, c3, n3, e3, r3⟩
  · exact .inl fun k => h _
  simp only [e3]
  rcases brK_def env3 (.tmp 14) with h | ⟨en, t, g1, g2, g3⟩
  · exact .inl fun k => h _ _
  simp only [g3]
  have hv : ∀ {G N lam a w}, @OK dfNil I.nt G N lam env3 lo3 c3 a w → a.eval (.tmp 14) = .bool t := fun hok => asB_ok g2 (evO_ok hok.pools hok.re g1)
  -- the way to the branch
  have way : ∀ (G : Nat → Prop) (N : Nm) (w : World) (vs : List Value), Rel N c w → Pools N → Off G N → In G w → RShs N ps l vs → ∀ Q : Exit → Act → World → Prop,
      (∀ a' w', @After dfNil I.nt G N w env3 lo3 c3 a' w' → (Code.cond (.tmp 14) (rg 4 false) (.seq (rg 5 false) (.cond (.tmp 25) (.seq (rg 6 false)
    (.block 1 (.rangeFunc (.tmp 30) #[31, 32] (.region 7 #[{ dst := some 6, op := .assign (.tmp 32), type := 3, pos := "node.go:396", after := #[], guard := none }] false)
      (.block 2 (.seq (rg 8 false) (.seq (rg 9 false) (.cond (.tmp 39) (rg 10 false) .skip))))))) .skip))).wp Tryz.prog (Exit.inBlock 0 (Exit.then (tail95.wp Tryz.prog Q) Q)) a' w') →
      (bodyOf Tryz.f95).wp Tryz.prog Q { tmps := vs.toArray ++ Array.replicate (I.nt - vs.toArray.size) undef, defers := [] } w := by
    intro G N w vs hR hp hO hI hvs Q hQ
    rw [shape95]
    refine wp_seq (r0 dfNil G N (fun _ => 0) _ w (start_ok hR hp hO hI hvs (Nat.le_of_ble_eq_true hps) _) _ fun a0 w0 A0 => ?_)
    obtain ⟨N0, lam0, x0, ok0, s0, z0⟩ := A0
    refine wp_seq (r1 dfNil G N0 lam0 a0 w0 ok0 _ fun a1 w1 A1 => ?_)
    have A1 := A1.trans x0 s0 z0
    obtain ⟨N1, lam1, x1, ok1, s1, z1⟩ := A1
    refine wp_seq (wp_seq (r2 dfNil G N1 lam1 a1 w1 ok1 _ fun a2 w2 A2 => ?_))
    have A2 := A2.trans x1 s1 z1
    obtain ⟨N2, lam2, x2, ok2, s2, z2⟩ := A2
    refine wp_block (wp_seq (r3 dfNil G N2 lam2 a2 w2 ok2 _ fun a3 w3 A3 => ?_))
    exact hQ a3 w3 (A3.trans x2 s2 z2)
  -- the call, from the body
  have call : ∀ (c' : Core), (∀ (G : Nat → Prop) (N : Nm) (w : World) (vs : List Value), Rel N c w → Pools N → Off G N → In G w → RShs N ps l vs → ∀ R : Ending → World → Prop, (∀ v w', Post G N w [] [] c' v w' → R (.returned v) w') →
      (bodyOf Tryz.f95).wp Tryz.prog (bodyPostM Fence.wide 5 Tryz.prog Tryz.f95 R) { tmps := vs.toArray ++ Array.replicate (I.nt - vs.toArray.size) undef, defers := [] } w) →
      ∀ G N w vs, Rel N c w → Pools N → Off G N → In G w → RShs N ps l vs → CallTo Tryz.prog 95 vs.toArray w (Post G N w [] [] c') := by
    intro c' hb G N w vs hR hp hO hI hvs
    unfold CallTo
    rw [callFunc_enter Tryz.func95 (code := bodyOf Tryz.f95) (by kernel_rfl) (by kernel_rfl)]
    simp only
    refine callsIn_wide.1 (callsIn_of_wp_marks (n := 5) Tryz.func95 (c := bodyOf Tryz.f95) (by kernel_rfl) trivial (wpIn_wide.2 ?_) rfl)
    rw [hnt]
    exact hb G N w vs hR hp hO hI hvs _ fun v w' h => h
  cases t with
  | true =>
    simp only [cond_true]
    rcases pieceAll hreg (rg 4 false) env3 lo3 c3 n3 with h | ⟨env4, lo4, c4, n4, e4, r4⟩
    · exact .inl fun k => h _
    simp only [e4]
    rcases tail_ok (p1 := p1) (p2 := p2) hdrw env4 lo4 c4 n4 with h | ⟨env5, lo5, c5, e5, r5⟩
    · exact .inl fun k => h _
    refine .inr ⟨[], c5, e5, rfl, call c5 fun G N w vs hR hp hO hI hvs R hRR => way G N w vs hR hp hO hI hvs _ fun a3 w3 A3 => ?_⟩
    obtain ⟨N3, lam3, x3, ok3, s3, z3⟩ := A3
    refine wp_cond_true (hv ok3) (r4 dfNil G N3 lam3 a3 w3 ok3 _ fun a4 w4 A4 => ?_)
    obtain ⟨N4, lam4, x4, ok4, s4, z4⟩ := A4.trans x3 s3 z3
    show tail95.wp Tryz.prog (bodyPostM Fence.wide 5 Tryz.prog Tryz.f95 R) _ _
    exact r5 dfNil G N4 lam4 a4 w4 ok4 _ fun a5 w5 A5 => end_none (A5.trans x4 s4 z4) hRR
  | false =>
    simp only [cond_false]
    rcases pieceAll hreg (rg 5 false) env3 lo3 c3 n3 with h | ⟨env4, lo4, c4, n4, e4, r4⟩
    · exact .inl fun k => h _
    simp only [e4]
    rcases brK_def env4 (.tmp 25) with h | ⟨en', t', g1', g2', g3'⟩
    · exact .inl fun k => h _ _
    simp only [g3']
    have hv' : ∀ {G N lam a w}, @OK dfNil I.nt G N lam env4 lo4 c4 a w → a.eval (.tmp 25) = .bool t' := fun hok => asB_ok g2' (evO_ok hok.pools hok.re g1')
    cases t' with
    | false =>
      simp only [cond_false]
      rcases tail_ok (p1 := p1) (p2 := p2) hdrw env4 lo4 c4 n4 with h | ⟨env5, lo5, c5, e5, r5⟩
      · exact .inl fun k => h _
      refine .inr ⟨[], c5, e5, rfl, call c5 fun G N w vs hR hp hO hI hvs R hRR => way G N w vs hR hp hO hI hvs _ fun a3 w3 A3 => ?_⟩
      obtain ⟨N3, lam3, x3, ok3, s3, z3⟩ := A3
      refine wp_cond_false (hv ok3) (wp_seq (r4 dfNil G N3 lam3 a3 w3 ok3 _ fun a4 w4 A4 => ?_))
      obtain ⟨N4, lam4, x4, ok4, s4, z4⟩ := A4.trans x3 s3 z3
      refine wp_cond_false (hv' ok4) (wp_skip ?_)
      show tail95.wp Tryz.prog (bodyPostM Fence.wide 5 Tryz.prog Tryz.f95 R) _ _
      exact r5 dfNil G N4 lam4 a4 w4 ok4 _ fun a5 w5 A5 => end_none (A5.trans x4 s4 z4) hRR
    | true =>
      simp only [cond_true]
      rcases pieceAll hreg (rg 6 false) env4 lo4 c4 n4 with h | ⟨env6, lo6, c6, n6, e6, r6⟩
      · exact .inl fun k => h _
      simp only [e6]
      rcases rf_ok hF hfns (i2 := 2) (i7 := 7) (i8 := 8) (i9 := 9) (i10 := 10) (ty7 := 3) (po7 := "node.go:396") (af7 := #[]) (o8 := o95 8) (o9 := o95 9) (o10 := o95 10) (q := .tmp 39) (g := .tmp 30) (by kernel_rfl) (by kernel_rfl) (by kernel_rfl)
        (ds := d95) (memL (by kernel_rfl)) (memL (by kernel_rfl)) (memL (by kernel_rfl)) ⟨by simp [d95], by simp [d95], by simp [d95]⟩ h32 env6 lo6 c6 n6 with h | ⟨lo7, c7, e7, r7⟩
      · exact .inl fun k => h _
      have e7' : ∀ k, rfK I d95 (rg 8 false) (rg 9 false) (rg 10 false) (.tmp 39) (.tmp 30) env6 lo6 c6 k = k lo7 c7 := e7
      simp only [e7']
      rcases tail_ok (p1 := p1) (p2 := p2) hdrw env6 lo7 c7 n6 with h | ⟨env5, lo5, c5, e5, r5⟩
      · exact .inl fun k => h _
      refine .inr ⟨[], c5, e5, rfl, call c5 fun G N w vs hR hp hO hI hvs R hRR => way G N w vs hR hp hO hI hvs _ fun a3 w3 A3 => ?_⟩
      obtain ⟨N3, lam3, x3, ok3, s3, z3⟩ := A3
      refine wp_cond_false (hv ok3) (wp_seq (r4 dfNil G N3 lam3 a3 w3 ok3 _ fun a4 w4 A4 => ?_))
      obtain ⟨N4, lam4, x4, ok4, s4, z4⟩ := A4.trans x3 s3 z3
      refine wp_cond_true (hv' ok4) (wp_seq (r6 dfNil G N4 lam4 a4 w4 ok4 _ fun a6 w6 A6 => ?_))
      obtain ⟨N6, lam6, x6, ok6, s6, z6⟩ := A6.trans x4 s4 z4
      refine wp_block (r7 G N6 lam6 a6 w6 ok6 _ fun D w7 B7 => ?_)
      obtain ⟨hD, hdd, A7⟩ := B7
      obtain ⟨N7, lam7, x7, ok7, s7, z7⟩ := A7.trans x6 s6 z6
      have hGD : ∀ g, G g → g ≠ D := fun g hg e => by have := ok6.ing g hg; omega
      have okD : @OK (dfD D) I.nt (fun g => G g ∨ g = D) N7 lam7 env6 lo7 c7 { a6 with defers := { target := .collected D, args := #[] } :: a6.defers } w7 := by
        have re' : RE N7 lam7 env6 lo7 { a6 with defers := { target := .collected D, args := #[] } :: a6.defers } w7 := ⟨ok7.re.slot, ok7.re.grd, ok7.re.blk, ok7.re.itr, ok7.re.off, ok7.re.inj⟩
        refine @OK.mk (dfD D) I.nt (fun g => G g ∨ g = D) N7 lam7 env6 lo7 c7 { a6 with defers := { target := .collected D, args := #[] } :: a6.defers } w7 re' ok7.rel ok7.pools (fun g b o k mo sp hg hb => ?_) (fun g hg => ?_) (fun i e hi hg => ?_) ok7.nt ?_
        · rcases hg with hg | rfl
          · exact ok7.off g b o k mo sp hg hb
          · obtain ⟨arr, ty, v, h1, _⟩ := ok7.rel.cell _ _ _ _ _ _ hb
            rw [hdd] at h1; cases h1
        · rcases hg with hg | rfl
          · exact ok7.ing g hg
          · exact (Array.getElem?_eq_some_iff.1 hdd).1
        · rcases hg with hg | hg
          · exact ok7.prot i e hi hg
          · cases e with
            | blk l x =>
              obtain ⟨arr, ty, f1, _⟩ := ok7.re.blk i l x hi
              rw [hg, hdd] at f1; cases f1
            | itr q p =>
              obtain ⟨bs, _, f1⟩ := ok7.re.itr i q p hi
              rw [hg, hdd] at f1; cases f1
        · show { target := .collected D, args := #[] } :: a6.defers = [{ target := .collected D, args := #[] }]
          rw [ok7.df]; rfl
      show tail95.wp Tryz.prog (bodyPostM Fence.wide 5 Tryz.prog Tryz.f95 R) _ _
      exact r5 (dfD D) _ N7 lam7 _ w7 okD _ fun a5 w5 A5 => end_mark x7 s7 z7 hGD hdd A5 hRR
namespace R
noncomputable def nmK (F : Kont → Bool) (k : Env → Lo → Core → Bool) : Bool := (fun _ => F (fun e env lo c => match e with
  | .nm => k env lo c
  | _ => false)) (hi69 ())
noncomputable def brK (env : Env) (q : Operand) (x y : Bool) : Bool := match evO env q with
  | some e => match asB e with
    | some t => ifB t x y
    | none => false
  | none => false
noncomputable def bodyK (I : FI) (r8 r9 r10 : Code) (q : Operand) (env : Env) (lo : Lo) (c : Core) (k : Lo → Core → Bool) : Bool :=
  R.nmK (den I .reg r8 env lo c) fun env lo c => R.nmK (den I .reg r9 env lo c) fun env lo c => brK env q (R.nmK (den I .reg r10 env lo c) fun env lo c => k lo c) (k lo c)
noncomputable def rfK (I : FI) (ds : List Nat) (r8 r9 r10 : Code) (q g : Operand) (env : Env) (lo : Lo) (c : Core) (k : Lo → Core → Bool) : Bool :=
  match evO env g with
  | some (.n (.one .fn) _ x) => stat (noItr lo && freeL env ds) (okB (Nat.beq (Nat.land x 1023) 193)
    (force (rd c.m (fcap x 0) 1) (fun sl => ifB (Nat.beq (sln sl) 0) (k lo c)
      (okB (Nat.beq (sln sl) 1) (okB (Nat.beq (deadBits c.d (slp sl) 1) 0)
        (force (rd c.m (slp sl) 1) (fun y => bodyK I r8 r9 r10 q (envR env y) lo c (fun lo c => stat (noItr lo) (k lo c) false)))))))) false
  | _ => false
noncomputable def tailK (I : FI) (p1 p2 : List (Nat × Nat)) (env : Env) (lo : Lo) (c : Core) (k : List Nat → Core → Bool) : Bool :=
  R.nmK (den I (.drw p1) (rg 11 true) env lo c) fun env lo c => brK env (.tmp 61) (R.nmK (den I (.drw p2) (rg 12 true) env lo c) fun env lo c => k [] c) (k [] c)
noncomputable def F95 (I : FI) (ps : List Sh) (p1 p2 : List (Nat × Nat)) (l : List Nat) (c : Core) (k : List Nat → Core → Bool) : Bool :=
  R.nmK (den I .reg (rg 0 false) (argEnv ps l 0) [] c) fun env lo c =>
  R.nmK (den I .reg (rg 1 false) env lo c) fun env lo c =>
  R.nmK (den I .reg (rg 2 false) env lo c) fun env lo c =>
  R.nmK (den I .reg (rg 3 false) env lo c) fun env lo c =>
  brK env (.tmp 14) (R.nmK (den I .reg (rg 4 false) env lo c) fun env lo c => tailK I p1 p2 env lo c k)
    (R.nmK (den I .reg (rg 5 false) env lo c) fun env lo c => brK env (.tmp 25)
      (R.nmK (den I .reg (rg 6 false) env lo c) fun env lo c => rfK I d95 (rg 8 false) (rg 9 false) (rg 10 false) (.tmp 39) (.tmp 30) env lo c fun lo c => tailK I p1 p2 env lo c k)
      (tailK I p1 p2 env lo c k))
theorem nmK_eq : @R.nmK = @VM.nmK := rfl
theorem den_eq : @R.den = @VM.den := by kernel_rfl
theorem okB_eq (b x : Bool) : okB b x = cond b x false := by cases b <;> rfl
theorem ifB_eq {α : Type} (b : Bool) (x y : α) : ifB b x y = cond b x y := by cases b <;> rfl
theorem stat_eq {α : Type} (b : Bool) (x y : α) : stat b x y = cond b x y := by cases b <;> rfl
theorem brK_eq : @R.brK = @VM.brK := by
  funext env q x y
  unfold R.brK VM.brK
  simp only [ifB_eq] <;> rfl
theorem bodyK_eq : @R.bodyK = @VM.bodyK := by
  funext I r8 r9 r10 q env lo c k
  unfold R.bodyK VM.bodyK
  rw [nmK_eq, den_eq, brK_eq]
theorem rfK_eq : @R.rfK = @VM.rfK := by
  funext I ds r8 r9 r10 q g env lo c k
  unfold R.rfK VM.rfK
  simp only [okB_eq, ifB_eq, stat_eq, bodyK_eq] <;> rfl
theorem tailK_eq : @R.tailK = @VM.tailK := by
  funext I p1 p2 env lo c k
  unfold R.tailK VM.tailK
  rw [nmK_eq, den_eq, brK_eq]
theorem F95_eq : @F95 = @VM.F95 := by
  funext I ps p1 p2 l c k
  unfold R.F95 VM.F95
  rw [nmK_eq, den_eq, brK_eq, tailK_eq, rfK_eq]
end R
/-- The function, with what it is known by. -/
theorem fun95_ok (hF : Facts Tryz.prog) (hm : Tryz.prog.follows .mixedOrders = true) {I : FI} (hfns : FnsOK Tryz.prog I.fns) (hnt : Tryz.f95.ntmps = I.nt) {ps rs : List Sh} (hps : Nat.ble ps.length I.nt = true) (hrs : rs = []) (p1 p2 : List (Nat × Nat))
    {F : List Nat → Core → (List Nat → Core → Bool) → Bool} (e : AllN ps.length fun l => ∀ m t s d k, R.F95 I ps p1 p2 l ⟨m, t, s, d⟩ k = F l ⟨m, t, s, d⟩ k) : FunOK Tryz.prog 95 ⟨ps, rs, F⟩ :=
  f95_ok hF hm hfns hnt hps hrs (p1 := p1) (p2 := p2) (by rw [R.F95_eq] at e; exact e)
end Go.Proofs.YtaekfgbfpfecdaaGreat.VM

namespace Go.Proofs.YtaekfgbfpfecdaaGreat.VM
open Go
set_option linter.unusedVariables false
set_option linter.unusedSimpArgs false
variable {P : Program}

def flatK : K → Bool
  | .int _ => true
  | .opq => true
  | .bool => true
  | .str => true
  | .cst _ => true
  | _ => false
def flatKs : List K → Bool
  | [] => true
  | k :: l => flatK k && flatKs l
/-- The names that were there, as they are now. -/
def Nm.only (N N' : Nm) : Nm := ⟨fun a => match N.ln a with
  | none => none
  | some _ => N'.ln a, N'.st⟩
theorem only_ln {N N' : Nm} {a : Nat} (h : N.ln a ≠ none) : (N.only N').ln a = N'.ln a := by
  simp only [Nm.only]
  cases h1 : N.ln a with
  | none => exact absurd h1 h
  | some i => rfl
theorem only_some {N N' : Nm} {a : Nat} {i : LI} (h : (N.only N').ln a = some i) : N.ln a ≠ none ∧ N'.ln a = some i := by
  simp only [Nm.only] at h
  cases h1 : N.ln a with
  | none => rw [h1] at h; cases h
  | some j => rw [h1] at h; exact ⟨(fun e => by cases e), h⟩
theorem RK.flat {N N' : Nm} {k : K} {x : Nat} {v : Value} (hk : flatK k = true) (h : RK N' k x v) : RK (N.only N') k x v := by
  cases k <;> first | (cases hk; done) | exact h | skip
theorem RP.only {N N' : Nm} {l : List K} {mo mo0 : Bool} {x g o g0 o0 : Nat} (r0 : RP N l mo0 x g0 o0) (r : RP N' l mo x g o) : RP (N.only N') l mo x g o := by
  obtain ⟨a0, h0, hj0⟩ := r0
  obtain ⟨a, h1, hj⟩ := r
  have e : a0 = a := by omega
  subst e
  refine ⟨a0, h1, fun j hl => ?_⟩
  have hn : N.ln (a0 + j) ≠ none := by
    rcases hj0 j hl with ⟨m, sp, h2, _⟩ | ⟨_, h2⟩ <;> rw [h2] <;> exact fun e => by cases e
  rw [only_ln hn]
  exact hj j hl
theorem RPv.only {N N' : Nm} {l : List K} {mo mo0 : Bool} {x : Nat} {v0 v : Value} (r0 : RPv N l mo0 x v0) (r : RPv N' l mo x v) : RPv (N.only N') l mo x v := by
  rcases r with ⟨h1, h2⟩ | ⟨h1, g, o, h2, h3⟩
  · exact .inl ⟨h1, h2⟩
  · rcases r0 with ⟨h4, _⟩ | ⟨_, g0, o0, _, h5⟩
    · exact absurd h4 h1
    · exact .inr ⟨h1, g, o, h2, h5.only h3⟩
theorem RS.only {N N' : Nm} {l : List K} {x : Nat} {v0 v : Value} (r0 : RS N l x v0) (r : RS N' l x v) : RS (N.only N') l x v := by
  rcases r with h | h | ⟨a, g, o, c, h1, h2, h3, h4, h5, h6, h7, h8, h9⟩
  · exact .inl h
  · exact .inr (.inl h)
  · rcases r0 with ⟨e, _⟩ | ⟨e, _⟩ | ⟨a0, g0, o0, c0, k1, k2, k3, k4, k5, k6, k7, k8, k9⟩
    · subst e
      have : slp 0 = 0 := rfl
      omega
    · subst e
      have : slp 9223372036854775808 = 0 := by decide
      omega
    · have e : a0 = a := by omega
      subst e
      refine .inr (.inr ⟨a0, g, o, c, h1, h2, h3, h4, h5, h6, fun j hj => ?_, h8, fun hx => ⟨(h9 hx).1, (h9 hx).2.1, ?_⟩⟩)
      · have hn : N.ln (a0 + j) ≠ none := by
          rcases k7 j hj with h | ⟨m, sp, h, _⟩ <;> rw [h] <;> exact fun e => by cases e
        have := h7 j hj
        unfold Lv at this ⊢
        rw [only_ln hn]
        exact this
      · have hn : N.ln (a0 + (scp x * l.length - 1)) ≠ none := by
          rcases (k9 hx).2.2 with h | ⟨k, sp, h, _⟩ <;> rw [h] <;> exact fun e => by cases e
        rw [only_ln hn]
        exact (h9 hx).2.2
theorem RF.only {N N' : Nm} {x : Nat} {v0 v : Value} (r0 : RF N x v0) (r : RF N' x v) : RF (N.only N') x v := by
  rcases r with h | ⟨g, vs, h1, h2, h3, h4⟩
  · exact .inl h
  · rcases r0 with ⟨e, _⟩ | ⟨g0, vs0, k1, k2, k3, k4⟩
    · subst e; cases h1
    · have e : g0 = g := by omega
      subst e
      refine .inr ⟨g0, vs, h1, h2, h3, fun i hi hi' => ?_⟩
      obtain ⟨g', o, h5, h6, h7⟩ := h4 i hi hi'
      obtain ⟨g1, o1, _, h8, _⟩ := k4 i hi (by rw [k3]; exact hi)
      exact ⟨g', o, h5, h8.only h6, h7⟩
theorem RK.only {N N' : Nm} {k : K} {x : Nat} {v0 v : Value} (r0 : RK N k x v0) (r : RK N' k x v) : RK (N.only N') k x v := by
  cases k with
  | int _ => exact RK.flat rfl r
  | opq => exact RK.flat rfl r
  | bool => exact RK.flat rfl r
  | str => exact RK.flat rfl r
  | cst _ => exact RK.flat rfl r
  | ptr τ => exact RPv.only r0 r
  | sli τ => exact RS.only r0 r
  | fn => exact RF.only r0 r
theorem Rel.only {N N' : Nm} {c c' : Core} {w w' : World} (h : Rel N c w) (e : Ext N N') (h' : Rel N' c' w') (hm : ∀ a, 1 ≤ a → a < c.t → lane c'.m a = lane c.m a) :
    Rel (N.only N') ⟨c.m, c.t, c'.s, Nat.mod c'.d (Nat.pow 2 c.t)⟩ w' := by
  refine ⟨?_, ?_, ?_, ?_, ?_, h.mlt, h.tl, h'.str, h'.spos⟩
  · intro a g o k mo sp ha
    obtain ⟨h1, h2⟩ := only_some ha
    obtain ⟨arr, ty, v, h3, h4, h5, h6⟩ := h'.cell a g o k mo sp h2
    refine ⟨arr, ty, v, h3, h4, ?_, h6⟩
    cases h7 : N.ln a with
    | none => exact absurd h7 h1
    | some i =>
      have hi : i = .cell g o k mo sp := by
        rcases e.ln a i h7 with h8 | ⟨h8, _⟩
        · rw [h2] at h8; exact (Option.some.inj h8).symm
        · rw [h2] at h8; cases h8
      subst hi
      obtain ⟨ha1, ha2⟩ := h.top a _ h7
      obtain ⟨arr0, ty0, v0, _, _, k5, _⟩ := h.cell a g o k mo sp h7
      rw [hm a ha1 ha2] at h5
      exact RK.only k5 h5
  · intro a a' g o k mo sp k' mo' sp' h1 h2
    exact h'.inj a a' g o k mo sp k' mo' sp' (only_some h1).2 (only_some h2).2
  · intro a a' g o k mo sp o' k' mo' sp' h1 h2
    exact h'.spare a a' g o k mo sp o' k' mo' sp' (only_some h1).2 (only_some h2).2
  · intro a ha
    obtain ⟨h1, h2⟩ := only_some ha
    show (c'.d % 2 ^ c.t).testBit a = true
    cases h7 : N.ln a with
    | none => exact absurd h7 h1
    | some i =>
      have := (h.top a _ h7).2
      rw [Nat.testBit_mod_two_pow, h'.dead a h2, decide_eq_true this]
      rfl
  · intro a i ha
    obtain ⟨h1, h2⟩ := only_some ha
    cases h7 : N.ln a with
    | none => exact absurd h7 h1
    | some j => exact h.top a j h7
theorem Ext.only {N N' : Nm} (e : Ext N N') : Ext N (N.only N') := by
  refine ⟨fun a i ha => ?_, e.st⟩
  rw [only_ln (by rw [ha]; exact fun e => by cases e)]
  exact e.ln a i ha
/-- Nothing that is handed back lies in memory. -/
def resB : List Sh → List Nat → Bool
  | [], [] => true
  | .one k :: ss, _ :: xs => flatK k && resB ss xs
  | .agg l :: ss, _ :: xs => flatKs l && resB ss xs
  | .ptr _ _ _ :: ss, x :: xs => cond (Nat.beq x 0) (resB ss xs) false
  | .sli _ :: ss, x :: xs => cond (Nat.beq x 0) (resB ss xs) false
  | _, _ => false
theorem flatKs_get : ∀ {l : List K}, flatKs l = true → ∀ j (h : j < l.length), flatK l[j] = true
  | k :: l, hf, 0, _ => by simp only [flatKs, Bool.and_eq_true] at hf; exact hf.1
  | k :: l, hf, j + 1, h => by
    simp only [flatKs, Bool.and_eq_true] at hf
    exact flatKs_get hf.2 j (by simpa using h)
theorem resB_ok {N N' : Nm} : ∀ {rs : List Sh} {xs : List Nat} {vs : List Value}, resB rs xs = true → RShs N' rs xs vs → RShs (N.only N') rs xs vs
  | [], [], [], _, _ => trivial
  | [], [], _ :: _, _, h => h.elim
  | [], _ :: _, _, _, h => h.elim
  | _ :: _, [], _, _, h => h.elim
  | _ :: _, _ :: _, [], _, h => h.elim
  | .one k :: ss, x :: xs, v :: vs, hb, h => by
    simp only [resB, Bool.and_eq_true] at hb
    exact ⟨⟨h.1.1, RK.flat hb.1 h.1.2⟩, resB_ok hb.2 h.2⟩
  | .agg l :: ss, x :: xs, v :: vs, hb, h => by
    simp only [resB, Bool.and_eq_true] at hb
    obtain ⟨h0, us, h1, h2, h3⟩ := h.1
    exact ⟨⟨h0, us, h1, h2, fun j hj hj' => RK.flat (flatKs_get hb.1 j hj) (h3 j hj hj')⟩, resB_ok hb.2 h.2⟩
  | .ptr l mo nn :: ss, x :: xs, v :: vs, hb, h => by
    simp only [resB] at hb
    obtain ⟨hx, hb⟩ := condT hb
    have hx := Nat.eq_of_beq_eq_true hx
    subst hx
    refine ⟨⟨h.1.1, ?_, h.1.2.2⟩, resB_ok hb h.2⟩
    rcases h.1.2.1 with h1 | ⟨h1, _⟩
    · exact .inl h1
    · exact absurd rfl h1
  | .sli l :: ss, x :: xs, v :: vs, hb, h => by
    simp only [resB] at hb
    obtain ⟨hx, hb⟩ := condT hb
    have hx := Nat.eq_of_beq_eq_true hx
    subst hx
    refine ⟨⟨h.1.1, ?_⟩, resB_ok hb h.2⟩
    rcases h.1.2 with h1 | ⟨h1, _⟩ | ⟨a, g, o, c, h1, h2, _⟩
    · exact .inl h1
    · cases h1
    · have : slp 0 = 0 := rfl
      omega
/-- The function, and then its rows forgotten, where that may be. -/
def resetF (rs : List Sh) (F : List Nat → Core → (List Nat → Core → Bool) → Bool) (l : List Nat) (c : Core) (k : List Nat → Core → Bool) : Bool :=
  F l c (fun xs c' => cond (cond (resB rs xs) (Nat.beq (Nat.shiftRight c.m 64) (Nat.shiftRight (rd c'.m 0 c.t) 64)) false) (k xs ⟨c.m, c.t, c'.s, Nat.mod c'.d (Nat.pow 2 c.t)⟩) (k xs c'))
theorem lanes_of {m m' t : Nat} (h : Nat.beq (Nat.shiftRight m 64) (Nat.shiftRight (rd m' 0 t) 64) = true) : ∀ a, 1 ≤ a → a < t → lane m' a = lane m a := by
  intro a h1 h2
  have h := Nat.eq_of_beq_eq_true h
  have e : ∀ x : Nat, lane x a = lane (Nat.shiftRight x 64) (a - 1) := by
    intro x
    have : Nat.shiftRight x 64 = x / 2 ^ 64 := Nat.shiftRight_eq_div_pow x 64
    rw [this]
    unfold lane
    rw [Nat.div_div_eq_div_mul, ← Nat.pow_add]
    congr 3; omega
  have e2 : lane (rd m' 0 t) a = lane m' a := by
    have := lane_rd m' 0 t a
    rw [if_pos h2, Nat.zero_add] at this
    exact this
  rw [← e2, e (rd m' 0 t), ← h, ← e m]
theorem FunOK.reset {g : FuncId} {ps rs : List Sh} {F : List Nat → Core → (List Nat → Core → Bool) → Bool} (h : FunOK P g ⟨ps, rs, F⟩) : FunOK P g ⟨ps, rs, resetF rs F⟩ := by
  intro l c hl
  rcases h l c hl with h1 | ⟨xs, c', h1, h2, h3⟩
  · exact .inl fun k => h1 _
  · have h1 : ∀ k, F l c k = k xs c' := h1
    cases hb : cond (resB rs xs) (Nat.beq (Nat.shiftRight c.m 64) (Nat.shiftRight (rd c'.m 0 c.t) 64)) false with
    | false =>
      refine .inr ⟨xs, c', fun k => ?_, h2, h3⟩
      show F l c _ = _
      rw [h1, hb]; rfl
    | true =>
      obtain ⟨hr, hm⟩ := condT hb
      refine .inr ⟨xs, ⟨c.m, c.t, c'.s, Nat.mod c'.d (Nat.pow 2 c.t)⟩, fun k => ?_, h2, ?_⟩
      · show F l c _ = _
        rw [h1, hb]; rfl
      · intro G N w vs hR hp hO hI hvs
        refine CallTo.mono (h3 G N w vs hR hp hO hI hvs) ?_
        rintro v w' ⟨N', e, hR', hO', hs, hz, hv⟩
        refine ⟨N.only N', e.only, hR.only e hR' (lanes_of hm), fun g a o k mo sp hg ha => hO' g a o k mo sp hg (only_some ha).2, hs, hz, ?_⟩
        rcases hv with ⟨s, x, rfl, rfl, hv⟩ | ⟨hne, us, rfl, hv⟩
        · have := resB_ok (N := N) (vs := [v]) hr ⟨hv, trivial⟩
          exact .inl ⟨s, x, rfl, rfl, this.1⟩
        · exact .inr ⟨hne, us, rfl, resB_ok hr hv⟩
end Go.Proofs.YtaekfgbfpfecdaaGreat.VM

