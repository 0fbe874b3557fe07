/- The contracts of the package path: what New, Of, All, Want, Open, Heard, Lost, Due answer and what becomes of the table; no conditions but those that each theorem names. -/
import Derived.Test.YtglliiijeadhcaaProg
import Derived.WalkKit
import Derived.WalkSpells
import Derived.WalkLawsBesides
import Derived.KernelRfl
import Derived.BigQuiet
import Derived.BigRegion
import Derived.RegionTactic
import Derived.Deep.QuietTactic
import Derived.Lib.Hide
import Derived.ScopeJumps
import Derived.Deep.DeepCutAuto
import Derived.Deep.CutBlock
import Derived.Deep.LoopGhost
import Derived.IntWalk
import Derived.Laws.Tables
import Derived.Laws.Rows
namespace Go.Proofs.Ytglliiijeadhcaa
open Go.RowKit

theorem ne_b {x y : Int} (h : x ≠ y) : (x == y) = false := by simpa using h
theorem ne_t {x y : Int} (h : x ≠ y) : (x != y) = true := by simpa using h
theorem eq_n {x y : Int} (h : x = y) : (x != y) = false := by simp [h]

/-- A block that is known whole. -/
structure Blk (w : World) (g : Nat) (t : TypeId) (cs : Array Value) : Prop where
  out : w.heap[g]? = some (.cells cs t (0, 0))
section
variable {w w' : World} {g : Nat} {t : TypeId} {cs : Array Value} {o : Obj}
theorem Blk.lt (h : Blk w g t cs) : g < w.heap.size := by
  rcases Nat.lt_or_ge g w.heap.size with hlt | hge
  · exact hlt
  · have := h.out; rw [Array.getElem?_eq_none hge] at this; cases this
theorem Blk.cell (h : Blk w g t cs) (i : Nat) : w.cell? ⟨g, i, none⟩ = cs[i]? := cell_of_row w g i cs t (0, 0) h.out
theorem Blk.frozen (h : Blk w g t cs) (i : Nat) : w.frozen? ⟨g, i, none⟩ = false := by
  simp [World.frozen?, h.out]
theorem Blk.new (w : World) (t : TypeId) (cs : Array Value) : Blk (w.alloc (.cells cs t)) w.heap.size t cs := ⟨heap_alloc_new w _⟩
theorem Blk.drew (h : Blk w g t cs) : Blk w.drew g t cs := ⟨h.out⟩
theorem Blk.alloc (h : Blk w g t cs) (o : Obj) : Blk (w.alloc o) g t cs := ⟨(Below.heap_alloc w o g h.lt).trans h.out⟩
theorem Blk.below {B : Nat} (h : Blk w g t cs) (hb : Below B w w') (hg : g < B) : Blk w' g t cs := ⟨(hb.block g hg).trans h.out⟩
theorem Blk.keep (h : Blk w g t cs) (hb : Below w.heap.size w w') : Blk w' g t cs := h.below hb h.lt
theorem Blk.set_ (h : Blk w g t cs) (i : Nat) (u : Value) : Blk (w.setCell ⟨g, i, none⟩ u) g t (cs.setIfInBounds i u) := by
  have := h.out
  exact ⟨by simp [World.setCell, Array.getElem?_modify, this]⟩
theorem Blk.far (h : Blk w g t cs) {p : Addr} (hp : g ≠ p.block) (u : Value) : Blk (w.setCell p u) g t cs := ⟨(Below.heap_setCell w p u g hp).trans h.out⟩
theorem Blk.put (h : Blk w g t cs) (i : Nat) (u : Value) {cs' : Array Value} (e : cs.setIfInBounds i u = cs') : Blk (w.setCell ⟨g, i, none⟩ u) g t cs' := e ▸ h.set_ i u
theorem Blk.put7 {a b c d k f m a' b' c' d' k' f' m' : Value} (h : Blk w g t #[a, b, c, d, k, f, m]) :
    Blk (((((((w.setCell ⟨g, 0, none⟩ a').setCell ⟨g, 1, none⟩ b').setCell ⟨g, 2, none⟩ c').setCell ⟨g, 3, none⟩ d').setCell ⟨g, 4, none⟩ k').setCell ⟨g, 5, none⟩ f').setCell ⟨g, 6, none⟩ m') g t #[a', b', c', d', k', f', m'] :=
  by simpa using ((((((h.set_ 0 a').set_ 1 b').set_ 2 c').set_ 3 d').set_ 4 k').set_ 5 f').set_ 6 m'
theorem Blk.far7 {p : Nat} {a' b' c' d' k' f' m' : Value} (h : Blk w g t cs) (hp : g ≠ p) :
    Blk (((((((w.setCell ⟨p, 0, none⟩ a').setCell ⟨p, 1, none⟩ b').setCell ⟨p, 2, none⟩ c').setCell ⟨p, 3, none⟩ d').setCell ⟨p, 4, none⟩ k').setCell ⟨p, 5, none⟩ f').setCell ⟨p, 6, none⟩ m') g t cs :=
  ((((((h.far hp _).far hp _).far hp _).far hp _).far hp _).far hp _).far hp _
theorem below7 {W w : World} {B g : Nat} {a' b' c' d' k' f' m' : Value} (h : Below B W w) (hg : B ≤ g) :
    Below B W (((((((w.setCell ⟨g, 0, none⟩ a').setCell ⟨g, 1, none⟩ b').setCell ⟨g, 2, none⟩ c').setCell ⟨g, 3, none⟩ d').setCell ⟨g, 4, none⟩ k').setCell ⟨g, 5, none⟩ f').setCell ⟨g, 6, none⟩ m') :=
  ((((((h.setCell hg _).setCell hg _).setCell hg _).setCell hg _).setCell hg _).setCell hg _).setCell hg _
/-- all that the walk wants of a block -/
theorem Blk.all (h : Blk w g t cs) : (∀ i, w.cell? ⟨g, i, none⟩ = cs[i]?) ∧ (∀ i, w.frozen? ⟨g, i, none⟩ = false) ∧ g < w.heap.size := ⟨h.cell, h.frozen, h.lt⟩
end

/-- As Q; by a goto to a label of c: what stands behind that label is gone through without another goto. -/
def Exit.fwd (P : Program) (c : Code) (Q : Exit → Act → World → Prop) : Exit → Act → World → Prop
  | .goto l, a, w => ∃ rest, findLabel c l = some rest ∧ rest.wp P (Exit.noGoto Q) a w
  | e, a, w => Q e a w
theorem Exit.fwd_ret (P : Program) (c : Code) (Q : Exit → Act → World → Prop) : Exit.fwd P c Q .ret = Q .ret := rfl
theorem wp_scope_fwd {P : Program} {a : Act} {w : World} {Q : Exit → Act → World → Prop} {c : Code} (h : c.wp P (Exit.fwd P c Q) a w) : (Code.scope c).wp P Q a w := by
  intro b k cs
  obtain ⟨e, a₁, w₁, hq, harr⟩ := h b (.inScope c :: k) cs
  cases e with
  | normal => exact ⟨.normal, a₁, w₁, hq, .head step_scope (Steps.trans harr (.one step_inScope))⟩
  | exit id => exact ⟨.exit id, a₁, w₁, hq, fun k' hk => .head step_scope (harr k' (by simp [exitTo, hk]))⟩
  | goto l =>
    obtain ⟨rest, hf, hr⟩ := hq
    have hg : gotoIn l (.inScope c :: k) = some (.code rest :: .inScope c :: k) := by simp [gotoIn, hf]
    have h0 := harr _ hg
    obtain ⟨e₂, a₂, w₂, hq₂, harr₂⟩ := hr b (.inScope c :: k) cs
    cases e₂ with
    | normal => exact ⟨.normal, a₂, w₂, hq₂, .head step_scope (Steps.trans h0 (Steps.trans harr₂ (.one step_inScope)))⟩
    | exit id => exact ⟨.exit id, a₂, w₂, hq₂, fun k' hk => .head step_scope (Steps.trans h0 (harr₂ k' (by simp [exitTo, hk])))⟩
    | goto l => exact hq₂.elim
    | ret => exact ⟨_, a₂, w₂, hq₂, .of_steps (.head step_scope h0) harr₂⟩
    | panic ch => exact ⟨_, a₂, w₂, hq₂, .of_steps (.head step_scope h0) harr₂⟩
    | outgrown => exact ⟨_, a₂, w₂, hq₂, .of_steps (.head step_scope h0) harr₂⟩
  | ret => exact ⟨_, a₁, w₁, hq, .of_steps (.one step_scope) harr⟩
  | panic ch => exact ⟨_, a₁, w₁, hq, .of_steps (.one step_scope) harr⟩
  | outgrown => exact ⟨_, a₁, w₁, hq, .of_steps (.one step_scope) harr⟩

theorem ret_ct {P : Program} {fn : Func} {p u : Tmp} {ty : TypeId} {R : Ending → World → Prop} {a : Act} {w : World} {g : Nat} {t : TypeId} {cs : Array Value} {d : TypeDesc} (h : fn.results = #[.cell p ty, .tmp u])
    (hp : a.tmps.getD p undef = .pointer (some ⟨g, 0, none⟩)) (hg : Blk w g t cs)
    (hu : P.underlying ty = some d) (hd : (match d with | .struct _ | .array _ _ => true | _ => false) = true) (hi : (P.info? ty).map (·.size) = some cs.size) (hde : a.defers = [])
    (hR : R (.returned (.tuple #[.agg cs, a.tmps.getD u undef])) w) : bodyPost P fn R .ret a w := by
  have hp' : a.tmps[p]?.getD undef = .pointer (some ⟨g, 0, none⟩) := by simpa using hp
  exact bodyPost_ret (v := .tuple #[.agg cs, a.tmps.getD u undef]) (by simp [results, h, hp', asAddr, run_loadVar_row w g t ty cs (0, 0) d hg.out hu hd hi]) hde hR


/-- A path as the program has it: seven cells. -/
structure Pt where
  (a b c d e f k : Int)
def Pt.zero : Pt := ⟨0, 0, 0, 0, 0, 0, 0⟩
def Pt.cell (x : Pt) : Nat → Value
  | 0 => .int .i64 x.a
  | 1 => .int .i64 x.b
  | 2 => .int .i64 x.c
  | 3 => .int .u32 x.d
  | 4 => .int .u16 x.e
  | 5 => .int .u64 x.f
  | _ => .int .u64 x.k
abbrev Pt.val (x : Pt) : Value := .agg #[.int .i64 x.a, .int .i64 x.b, .int .i64 x.c, .int .u32 x.d, .int .u16 x.e, .int .u64 x.f, .int .u64 x.k]
def upd (F : Nat → Pt) (k : Nat) (x : Pt) : Nat → Pt := fun i => if i = k then x else F i
theorem upd_at (F : Nat → Pt) (k : Nat) (x : Pt) : upd F k x k = x := by simp [upd]
theorem upd_ne (F : Nat → Pt) {k i : Nat} (x : Pt) (h : i ≠ k) : upd F k x i = F i := by simp [upd, h]
theorem upd_upd (F : Nat → Pt) (k : Nat) (x y : Pt) : upd (upd F k x) k y = upd F k y := by
  funext i; unfold upd; split <;> rfl

/-- The table's block: four numbers, 33 paths. -/
structure Tab (w : World) (g : Nat) (tr ba ke ho : Int) (F : Nat → Pt) : Prop where
  has : ∃ cs, Blk w g 72 cs ∧ cs.size = 235 ∧ cs[0]? = some (.int .i64 tr) ∧ cs[1]? = some (.int .u64 ba) ∧ cs[2]? = some (.int .u64 ke) ∧ cs[3]? = some (.int .u64 ho) ∧ ∀ k j, k < 33 → j < 7 → cs[4 + k * 7 + j]? = some ((F k).cell j)

section
variable {w w' : World} {g : Nat} {tr ba ke ho : Int} {F : Nat → Pt}
theorem Tab.lt (h : Tab w g tr ba ke ho F) : g < w.heap.size := by
  obtain ⟨cs, hB, _⟩ := h.has
  exact hB.lt
theorem Tab.keep (h : Tab w g tr ba ke ho F) (hb : Below w.heap.size w w') : Tab w' g tr ba ke ho F := by
  obtain ⟨cs, hB, hr⟩ := h.has
  exact ⟨cs, hB.keep hb, hr⟩
theorem Tab.grown (h : Tab w g tr ba ke ho F) {r : Nat} (hb : w.grownBy w' (some r)) (hr : g ≠ r) : Tab w' g tr ba ke ho F := by
  obtain ⟨cs, hB, hq⟩ := h.has
  exact ⟨cs, ⟨(hb.block g hB.lt (fun e => hr (by injection e))).trans hB.out⟩, hq⟩
theorem Tab.alloc (h : Tab w g tr ba ke ho F) (o : Obj) : Tab (w.alloc o) g tr ba ke ho F := by
  obtain ⟨cs, hB, hr⟩ := h.has
  exact ⟨cs, hB.alloc o, hr⟩
theorem Tab.drew (h : Tab w g tr ba ke ho F) : Tab w.drew g tr ba ke ho F := by
  obtain ⟨cs, hB, hr⟩ := h.has
  exact ⟨cs, hB.drew, hr⟩
theorem Tab.drewN (h : Tab w g tr ba ke ho F) (n : Nat) : Tab (w.drewN n) g tr ba ke ho F := by
  obtain ⟨cs, hB, hr⟩ := h.has
  exact ⟨cs, ⟨hB.out⟩, hr⟩
theorem Tab.congr (h : Tab w g tr ba ke ho F) {F' : Nat → Pt} (he : ∀ k, k < 33 → F k = F' k) : Tab w g tr ba ke ho F' := by
  obtain ⟨cs, hB, hs, h0, h1, h2, h3, hr⟩ := h.has
  exact ⟨cs, hB, hs, h0, h1, h2, h3, fun k j hk hj => by rw [← he k hk]; exact hr k j hk hj⟩
/-- the four numbers, nothing frozen, it is there -/
theorem Tab.head (h : Tab w g tr ba ke ho F) : w.cell? ⟨g, 0, none⟩ = some (.int .i64 tr) ∧ w.cell? ⟨g, 1, none⟩ = some (.int .u64 ba) ∧ w.cell? ⟨g, 2, none⟩ = some (.int .u64 ke) ∧ w.cell? ⟨g, 3, none⟩ = some (.int .u64 ho) ∧ (∀ i, w.frozen? ⟨g, i, none⟩ = false) ∧ g < w.heap.size := by
  obtain ⟨cs, hB, hs, h0, h1, h2, h3, hr⟩ := h.has
  exact ⟨(hB.cell 0).trans h0, (hB.cell 1).trans h1, (hB.cell 2).trans h2, (hB.cell 3).trans h3, hB.frozen, hB.lt⟩
/-- the cells of one path -/
theorem Tab.ent (h : Tab w g tr ba ke ho F) {k : Nat} (hk : k < 33) {x : Pt} (hx : F k = x) :
    w.cell? ⟨g, 4 + k * 7, none⟩ = some (.int .i64 x.a) ∧ w.cell? ⟨g, 4 + k * 7 + 1, none⟩ = some (.int .i64 x.b) ∧ w.cell? ⟨g, 4 + k * 7 + 2, none⟩ = some (.int .i64 x.c) ∧ w.cell? ⟨g, 4 + k * 7 + 3, none⟩ = some (.int .u32 x.d) ∧
    w.cell? ⟨g, 4 + k * 7 + 4, none⟩ = some (.int .u16 x.e) ∧ w.cell? ⟨g, 4 + k * 7 + 5, none⟩ = some (.int .u64 x.f) ∧ w.cell? ⟨g, 4 + k * 7 + 6, none⟩ = some (.int .u64 x.k) := by
  subst hx
  obtain ⟨cs, hB, hs, h0, h1, h2, h3, hr⟩ := h.has
  exact ⟨(hB.cell _).trans (hr k 0 hk (by omega)), (hB.cell _).trans (hr k 1 hk (by omega)), (hB.cell _).trans (hr k 2 hk (by omega)), (hB.cell _).trans (hr k 3 hk (by omega)), (hB.cell _).trans (hr k 4 hk (by omega)), (hB.cell _).trans (hr k 5 hk (by omega)), (hB.cell _).trans (hr k 6 hk (by omega))⟩
/-- a store into one field of one path -/
theorem Tab.set1 (h : Tab w g tr ba ke ho F) {k j : Nat} (hk : k < 33) (hj : j < 7) (v : Value) (x : Pt) (hv : x.cell j = v) (hx : ∀ i, i < 7 → i ≠ j → x.cell i = (F k).cell i) :
    Tab (w.setCell ⟨g, 4 + k * 7 + j, none⟩ v) g tr ba ke ho (upd F k x) := by
  obtain ⟨cs, hB, hs, h0, h1, h2, h3, hr⟩ := h.has
  refine ⟨_, hB.set_ (4 + k * 7 + j) v, by simpa using hs, ?_, ?_, ?_, ?_, ?_⟩
  · rw [Array.getElem?_setIfInBounds_ne (by omega)]; exact h0
  · rw [Array.getElem?_setIfInBounds_ne (by omega)]; exact h1
  · rw [Array.getElem?_setIfInBounds_ne (by omega)]; exact h2
  · rw [Array.getElem?_setIfInBounds_ne (by omega)]; exact h3
  · intro k' j' hk' hj'
    by_cases he : 4 + k * 7 + j = 4 + k' * 7 + j'
    · have e1 : k' = k := by omega
      have e2 : j' = j := by omega
      subst e1; subst e2
      rw [Array.getElem?_setIfInBounds_self_of_lt (by omega), upd_at, hv]
    · rw [Array.getElem?_setIfInBounds_ne he, hr k' j' hk' hj']
      by_cases e1 : k' = k
      · subst e1
        rw [upd_at, hx j' hj' (by omega)]
      · rw [upd_ne _ _ e1]
/-- a store of a whole path -/
theorem Tab.set7 (h : Tab w g tr ba ke ho F) {k : Nat} (hk : k < 33) (x : Pt) :
    Tab (((((((w.setCell ⟨g, 4 + k * 7, none⟩ (.int .i64 x.a)).setCell ⟨g, 4 + k * 7 + 1, none⟩ (.int .i64 x.b)).setCell ⟨g, 4 + k * 7 + 2, none⟩ (.int .i64 x.c)).setCell ⟨g, 4 + k * 7 + 3, none⟩ (.int .u32 x.d)).setCell ⟨g, 4 + k * 7 + 4, none⟩ (.int .u16 x.e)).setCell ⟨g, 4 + k * 7 + 5, none⟩ (.int .u64 x.f)).setCell ⟨g, 4 + k * 7 + 6, none⟩ (.int .u64 x.k)) g tr ba ke ho (upd F k x) := by
  have T0 := h.set1 (j := 0) hk (by omega) (.int .i64 x.a) { F k with a := x.a } rfl (fun i hi hn => by match i, hi, hn with | 1, _, _ | 2, _, _ | 3, _, _ | 4, _, _ | 5, _, _ | 6, _, _ => rfl)
  have T1 := T0.set1 (j := 1) hk (by omega) (.int .i64 x.b) { F k with a := x.a, b := x.b } rfl (fun i hi hn => by rw [upd_at]; match i, hi, hn with | 0, _, _ | 2, _, _ | 3, _, _ | 4, _, _ | 5, _, _ | 6, _, _ => rfl)
  have T2 := T1.set1 (j := 2) hk (by omega) (.int .i64 x.c) { F k with a := x.a, b := x.b, c := x.c } rfl (fun i hi hn => by rw [upd_at]; match i, hi, hn with | 0, _, _ | 1, _, _ | 3, _, _ | 4, _, _ | 5, _, _ | 6, _, _ => rfl)
  have T3 := T2.set1 (j := 3) hk (by omega) (.int .u32 x.d) { F k with a := x.a, b := x.b, c := x.c, d := x.d } rfl (fun i hi hn => by rw [upd_at]; match i, hi, hn with | 0, _, _ | 1, _, _ | 2, _, _ | 4, _, _ | 5, _, _ | 6, _, _ => rfl)
  have T4 := T3.set1 (j := 4) hk (by omega) (.int .u16 x.e) { F k with a := x.a, b := x.b, c := x.c, d := x.d, e := x.e } rfl (fun i hi hn => by rw [upd_at]; match i, hi, hn with | 0, _, _ | 1, _, _ | 2, _, _ | 3, _, _ | 5, _, _ | 6, _, _ => rfl)
  have T5 := T4.set1 (j := 5) hk (by omega) (.int .u64 x.f) { F k with a := x.a, b := x.b, c := x.c, d := x.d, e := x.e, f := x.f } rfl (fun i hi hn => by rw [upd_at]; match i, hi, hn with | 0, _, _ | 1, _, _ | 2, _, _ | 3, _, _ | 4, _, _ | 6, _, _ => rfl)
  have T6 := T5.set1 (j := 6) hk (by omega) (.int .u64 x.k) x rfl (fun i hi hn => by rw [upd_at]; match i, hi, hn with | 0, _, _ | 1, _, _ | 2, _, _ | 3, _, _ | 4, _, _ | 5, _, _ => rfl | n + 6, hi, hn => exact absurd (show n + 6 = 6 by omega) hn)
  simp only [upd_upd] at T6
  exact T6
theorem Tab.put7 (h : Tab w g tr ba ke ho F) {k : Nat} (hk : k < 33) {a b c d e f q : Int} :
    Tab (((((((w.setCell ⟨g, 4 + k * 7, none⟩ (.int .i64 a)).setCell ⟨g, 4 + k * 7 + 1, none⟩ (.int .i64 b)).setCell ⟨g, 4 + k * 7 + 2, none⟩ (.int .i64 c)).setCell ⟨g, 4 + k * 7 + 3, none⟩ (.int .u32 d)).setCell ⟨g, 4 + k * 7 + 4, none⟩ (.int .u16 e)).setCell ⟨g, 4 + k * 7 + 5, none⟩ (.int .u64 f)).setCell ⟨g, 4 + k * 7 + 6, none⟩ (.int .u64 q)) g tr ba ke ho (upd F k ⟨a, b, c, d, e, f, q⟩) :=
  h.set7 hk ⟨a, b, c, d, e, f, q⟩
theorem Tab.putF (h : Tab w g tr ba ke ho F) {k : Nat} (hk : k < 33) {f : Int} : Tab (w.setCell ⟨g, 4 + k * 7 + 5, none⟩ (.int .u64 f)) g tr ba ke ho (upd F k { F k with f := f }) :=
  h.set1 (j := 5) hk (by omega) (.int .u64 f) _ rfl (fun i hi hn => by match i, hi, hn with | 0, _, _ | 1, _, _ | 2, _, _ | 3, _, _ | 4, _, _ | 6, _, _ => rfl)
theorem Tab.putK (h : Tab w g tr ba ke ho F) {k : Nat} (hk : k < 33) {f : Int} : Tab (w.setCell ⟨g, 4 + k * 7 + 6, none⟩ (.int .u64 f)) g tr ba ke ho (upd F k { F k with k := f }) :=
  h.set1 (j := 6) hk (by omega) (.int .u64 f) _ rfl (fun i hi hn => by match i, hi, hn with | 0, _, _ | 1, _, _ | 2, _, _ | 3, _, _ | 4, _, _ | 5, _, _ => rfl | n + 6, hi, hn => exact absurd (show n + 6 = 6 by omega) hn)
theorem Tab.putC (h : Tab w g tr ba ke ho F) {k : Nat} (hk : k < 33) {f : Int} : Tab (w.setCell ⟨g, 4 + k * 7 + 2, none⟩ (.int .i64 f)) g tr ba ke ho (upd F k { F k with c := f }) :=
  h.set1 (j := 2) hk (by omega) (.int .i64 f) _ rfl (fun i hi hn => by match i, hi, hn with | 0, _, _ | 1, _, _ | 3, _, _ | 4, _, _ | 5, _, _ | 6, _, _ => rfl)
end

/-! only block g, and what is new, has turned -/
theorem only_drew {a w : World} {row : Option Nat} (h : a.grownBy w row) : a.grownBy w.drew row := ⟨h.os, h.tape, h.output, h.size, h.block⟩
theorem only_drewN {a w : World} {row : Option Nat} (h : a.grownBy w row) (n : Nat) : a.grownBy (w.drewN n) row := ⟨h.os, h.tape, h.output, h.size, h.block⟩
theorem only_alloc {a w : World} {row : Option Nat} (h : a.grownBy w row) (o : Obj) : a.grownBy (w.alloc o) row :=
  ⟨h.os, h.tape, h.output, Nat.le_trans h.size (by simp), fun i hi hne => (Below.heap_alloc w o i (Nat.lt_of_lt_of_le hi h.size)).trans (h.block i hi hne)⟩
theorem only_setCell {a w : World} {g : Nat} (h : a.grownBy w (some g)) {p : Addr} (hp : p.block = g ∨ a.heap.size ≤ p.block) (u : Value) : a.grownBy (w.setCell p u) (some g) :=
  ⟨h.os, h.tape, h.output, by simpa [World.setCell] using h.size, fun i hi hne => (Below.heap_setCell w p u i (by
    rintro rfl
    rcases hp with hp | hp
    · exact hne (by rw [hp])
    · omega)).trans (h.block i hi hne)⟩
theorem only_of_below {a w : World} (h : Below a.heap.size a w) (row : Option Nat) : a.grownBy w row := ⟨h.os, h.tape, h.output, h.size, fun i hi _ => h.block i hi⟩
theorem only_refl (a : World) (row : Option Nat) : a.grownBy a row := ⟨rfl, rfl, rfl, Nat.le_refl _, fun _ _ _ => rfl⟩
theorem only_trans {a b c : World} {row : Option Nat} (h : a.grownBy b row) (k : b.grownBy c row) : a.grownBy c row :=
  ⟨k.os.trans h.os, k.tape.trans h.tape, k.output.trans h.output, Nat.le_trans h.size k.size, fun i hi hne => (k.block i (Nat.lt_of_lt_of_le hi h.size) hne).trans (h.block i hi hne)⟩
theorem only_set7 {a w : World} {g : Nat} (h : a.grownBy w (some g)) {o0 o1 o2 o3 o4 o5 o6 : Nat} {v0 v1 v2 v3 v4 v5 v6 : Value} :
    a.grownBy (((((((w.setCell ⟨g, o0, none⟩ v0).setCell ⟨g, o1, none⟩ v1).setCell ⟨g, o2, none⟩ v2).setCell ⟨g, o3, none⟩ v3).setCell ⟨g, o4, none⟩ v4).setCell ⟨g, o5, none⟩ v5).setCell ⟨g, o6, none⟩ v6) (some g) :=
  only_setCell (only_setCell (only_setCell (only_setCell (only_setCell (only_setCell (only_setCell h (.inl rfl) _) (.inl rfl) _) (.inl rfl) _) (.inl rfl) _) (.inl rfl) _) (.inl rfl) _) (.inl rfl) _
theorem Blk.only {w w' : World} {g r : Nat} {t : TypeId} {cs : Array Value} (h : Blk w g t cs) (hb : w.grownBy w' (some r)) (hr : g ≠ r) : Blk w' g t cs :=
  ⟨(hb.block g h.lt (fun e => hr (by injection e))).trans h.out⟩

set_option maxHeartbeats 400000 in
theorem node_yes (p : Int) (w : World) (h1 : 1 ≤ p) (h2 : p ≤ 32) : Calls Try.prog 26 #[.int .i64 p] w fun e w' => e = .returned (.bool true) ∧ w = w' := by
  go_enter Try.func26, Try.ntmps26
  go_wp2
  go_ret
  exact ⟨rfl, rfl⟩
set_option maxHeartbeats 400000 in
theorem node_no (p : Int) (w : World) (h : p < 1 ∨ 32 < p) : Calls Try.prog 26 #[.int .i64 p] w fun e w' => e = .returned (.bool false) ∧ w = w' := by
  by_cases h1 : p < 1
  · go_enter Try.func26, Try.ntmps26
    go_wp2
    go_ret
    exact ⟨rfl, rfl⟩
  · have h2 : 32 < p := by omega
    have h3 : decide (p ≤ 32) = false := by simp; omega
    go_enter Try.func26, Try.ntmps26
    go_wp2
    go_ret
    exact ⟨rfl, rfl⟩
variable {g : Nat} {tr ba ke ho : Int} {F : Nat → Pt}
set_option maxHeartbeats 1000000 in
theorem of_yes (p : Nat) (x : Pt) (w : World) (T : Tab w g tr ba ke ho F) (h1 : 1 ≤ p) (h2 : p ≤ 32) (hx : F p = x) (hb : x.b ≠ 0) :
    Calls Try.prog 25 #[.pointer (some ⟨g, 0, none⟩), .int .i64 p] w fun e w' => e = .returned (.tuple #[x.val, .bool true]) ∧ Below w.heap.size w w' := by
  obtain ⟨c0, c1, c2, c3, fz, z⟩ := T.head
  obtain ⟨e0, e1, e2, e3, e4, e5, e6⟩ := T.ent (k := p) (by omega) hx
  have hb' := ne_b hb
  clear T hx
  go_enter Try.func25, Try.ntmps25
  go_wp2_with fail
  refine (node_yes _ _ (by omega) (by omega)).mono ?_
  rintro e1 w1 ⟨rfl, rfl⟩
  go_wp2
  exact ret_ct rfl rfl (Blk.new _ _ _) Try.underlying61 rfl (by kernel_rfl) rfl ⟨rfl, (Below.refl _ _).alloc (Nat.le_refl _) _⟩
set_option maxHeartbeats 1000000 in
theorem of_none (p : Nat) (w : World) (T : Tab w g tr ba ke ho F) (h1 : 1 ≤ p) (h2 : p ≤ 32) (hb : (F p).b = 0) :
    Calls Try.prog 25 #[.pointer (some ⟨g, 0, none⟩), .int .i64 p] w fun e w' => e = .returned (.tuple #[Pt.zero.val, .bool false]) ∧ Below w.heap.size w w' := by
  obtain ⟨c0, c1, c2, c3, fz, z⟩ := T.head
  obtain ⟨e0, e1, e2, e3, e4, e5, e6⟩ := T.ent (k := p) (by omega) rfl
  rw [hb] at e1
  clear T hb
  go_enter Try.func25, Try.ntmps25
  go_wp2_with fail
  refine (node_yes _ _ (by omega) (by omega)).mono ?_
  rintro e1 w1 ⟨rfl, rfl⟩
  go_wp2
  exact ret_ct rfl rfl (Blk.new _ _ _) Try.underlying61 rfl (by kernel_rfl) rfl ⟨rfl, (Below.refl _ _).alloc (Nat.le_refl _) _⟩
set_option maxHeartbeats 1000000 in
theorem of_bad (q : Value) (p : Int) (w : World) (h : p < 1 ∨ 32 < p) :
    Calls Try.prog 25 #[q, .int .i64 p] w fun e w' => e = .returned (.tuple #[Pt.zero.val, .bool false]) ∧ Below w.heap.size w w' := by
  go_enter Try.func25, Try.ntmps25
  go_wp2_with fail
  refine (node_no _ _ h).mono ?_
  rintro e1 w1 ⟨rfl, rfl⟩
  go_wp2
  exact ret_ct rfl rfl (Blk.new _ _ _) Try.underlying61 rfl (by kernel_rfl) rfl ⟨rfl, (Below.refl _ _).alloc (Nat.le_refl _) _⟩

set_option maxHeartbeats 1000000 in
theorem want_ok (p : Nat) (n : Int) (w : World) (T : Tab w g tr ba ke ho F) (h1 : 1 ≤ p) (h2 : p ≤ 32) (h3 : n ≤ 4611686018427387904) (hb : (F p).b = 0) :
    Calls Try.prog 12 #[.pointer (some ⟨g, 0, none⟩), .int .i64 p, .int .u64 n] w fun e w' => e = .returned (.int .i64 0) ∧ Tab w' g tr ba ke ho (upd F p ⟨p, 2, 0, 0, 0, n, 0⟩) ∧ w.grownBy w' (some g) := by
  obtain ⟨c0, c1, c2, c3, fz, z⟩ := T.head
  obtain ⟨e0, e1, e2, e3, e4, e5, e6⟩ := T.ent (k := p) (by omega) rfl
  rw [hb] at e1
  clear hb
  go_enter Try.func12, Try.ntmps12
  go_wp2_with fail
  refine (node_yes _ _ (by omega) (by omega)).mono ?_
  rintro e1 w1 ⟨rfl, rfl⟩
  go_wp2
  go_ret
  exact ⟨rfl, T.put7 (by omega), only_set7 (only_refl _ _)⟩

set_option maxHeartbeats 1000000 in
theorem want_old (p : Nat) (n : Int) (w : World) (T : Tab w g tr ba ke ho F) (h1 : 1 ≤ p) (h2 : p ≤ 32) (h3 : n ≤ 4611686018427387904) (hb : (F p).b ≠ 0) :
    Calls Try.prog 12 #[.pointer (some ⟨g, 0, none⟩), .int .i64 p, .int .u64 n] w fun e w' => e = .returned (.int .i64 6) ∧ w = w' := by
  obtain ⟨c0, c1, c2, c3, fz, z⟩ := T.head
  obtain ⟨e0, e1, e2, e3, e4, e5, e6⟩ := T.ent (k := p) (by omega) rfl
  have hb' := ne_t hb
  clear T
  go_enter Try.func12, Try.ntmps12
  go_wp2_with fail
  refine (node_yes _ _ (by omega) (by omega)).mono ?_
  rintro e1 w1 ⟨rfl, rfl⟩
  go_wp2
  go_ret
  exact ⟨rfl, rfl⟩
set_option maxHeartbeats 1000000 in
theorem want_bad (q : Value) (p n : Int) (w : World) (h : p < 1 ∨ 32 < p ∨ 4611686018427387904 < n) :
    Calls Try.prog 12 #[q, .int .i64 p, .int .u64 n] w fun e w' => e = .returned (.int .i64 1) ∧ w = w' := by
  by_cases hp : p < 1 ∨ 32 < p
  · go_enter Try.func12, Try.ntmps12
    go_wp2_with fail
    refine (node_no _ _ hp).mono ?_
    rintro e1 w1 ⟨rfl, rfl⟩
    go_wp2
    go_ret
    exact ⟨rfl, rfl⟩
  · have hn : 4611686018427387904 < n := by omega
    go_enter Try.func12, Try.ntmps12
    go_wp2_with fail
    refine (node_yes _ _ (by omega) (by omega)).mono ?_
    rintro e1 w1 ⟨rfl, rfl⟩
    go_wp2
    go_ret
    exact ⟨rfl, rfl⟩

/-- An address as the program has it; is it none? -/
def noneB (i p : Int) : Bool := i == 0 || p == 0
set_option maxHeartbeats 1000000 in
theorem none_any (i p : Int) (w : World) : Calls Try.prog 30 #[.agg #[.int .u32 i, .int .u16 p]] w fun e w' => e = .returned (.bool (noneB i p)) ∧ Below w.heap.size w w' := by
  unfold noneB
  have hbw := Below.refl w.heap.size w
  by_cases h : i = 0
  · subst h
    go_enter Try.func30, Try.ntmps30
    go_wp2
    go_ret
    exact ⟨rfl, hbw.alloc (Nat.le_refl _) _⟩
  · have h' := ne_b h
    go_enter Try.func30, Try.ntmps30
    go_wp2
    go_ret
    exact ⟨by simp [h'], hbw.alloc (Nat.le_refl _) _⟩




set_option maxHeartbeats 2000000 in
theorem open_ok (p : Nat) (i q n : Int) (w : World) (T : Tab w g tr ba ke ho F) (h1 : 1 ≤ p) (h2 : p ≤ 32) (h0 : 0 ≤ n) (h3 : n ≤ 4611686018427387904) (ha : noneB i q = false)
    (k1 : 0 ≤ ke) (k2 : ke ≤ 1000000) (o1 : 0 ≤ ho) (o2 : ho ≤ 1000000) :
    Calls Try.prog 14 #[.pointer (some ⟨g, 0, none⟩), .int .i64 p, .agg #[.int .u32 i, .int .u16 q], .int .u64 n] w fun e w' => e = .returned (.int .i64 0) ∧ Tab w' g tr ba ke ho (upd F p ⟨p, 3, 0, i, q, n + ke, n + ho⟩) ∧ w.grownBy w' (some g) := by
  have z0 := T.lt
  go_enter Try.func14, Try.ntmps14
  go_wp2_with fail
  refine (node_yes _ _ (by omega) (by omega)).mono ?_
  rintro e1 w1 ⟨rfl, rfl⟩
  go_wp2_with fail
  refine (none_any _ _ _).mono ?_
  rintro e1 w1 ⟨rfl, hb⟩
  have hbw := ((Below.refl w.heap.size w).alloc (Nat.le_refl _) _).trans (hb.mono (by simp))
  have T1 := (T.alloc _).keep hb
  obtain ⟨cb, fb, zb⟩ := ((Blk.new w _ _).keep hb).all
  have ng : w.heap.size ≠ g := by omega
  have ng' : g ≠ w.heap.size := by omega
  clear T hb
  rw [ha]
  clear ha
  obtain ⟨c0, c1, c2, c3, fz, z⟩ := T1.head
  obtain ⟨e0, e1, e2, e3, e4, e5, e6⟩ := T1.ent (k := p) (by omega) rfl
  have Hz := Lib.hid z0
  go_wp2
  go_region
  go_wp2
  go_ret
  exact ⟨rfl, (T1.put7 (by omega)).drew, only_drew (only_set7 (only_of_below hbw _))⟩
set_option maxHeartbeats 1000000 in
theorem open_bad (v : Value) (p i q n : Int) (w : World) (h : p < 1 ∨ 32 < p ∨ 4611686018427387904 < n) :
    Calls Try.prog 14 #[v, .int .i64 p, .agg #[.int .u32 i, .int .u16 q], .int .u64 n] w fun e w' => e = .returned (.int .i64 1) ∧ Below w.heap.size w w' := by
  by_cases hp : p < 1 ∨ 32 < p
  · go_enter Try.func14, Try.ntmps14
    go_wp2_with fail
    refine (node_no _ _ hp).mono ?_
    rintro e1 w1 ⟨rfl, rfl⟩
    go_wp2
    go_ret
    exact ⟨rfl, (Below.refl _ _).alloc (Nat.le_refl _) _⟩
  · have hn : 4611686018427387904 < n := by omega
    go_enter Try.func14, Try.ntmps14
    go_wp2_with fail
    refine (node_yes _ _ (by omega) (by omega)).mono ?_
    rintro e1 w1 ⟨rfl, rfl⟩
    go_wp2
    go_ret
    exact ⟨rfl, (Below.refl _ _).alloc (Nat.le_refl _) _⟩
set_option maxHeartbeats 1000000 in
theorem open_none (v : Value) (p i q n : Int) (w : World) (h1 : 1 ≤ p) (h2 : p ≤ 32) (h3 : n ≤ 4611686018427387904) (ha : noneB i q = true) :
    Calls Try.prog 14 #[v, .int .i64 p, .agg #[.int .u32 i, .int .u16 q], .int .u64 n] w fun e w' => e = .returned (.int .i64 1) ∧ Below w.heap.size w w' := by
  go_enter Try.func14, Try.ntmps14
  go_wp2_with fail
  refine (node_yes _ _ (by omega) (by omega)).mono ?_
  rintro e1 w1 ⟨rfl, rfl⟩
  go_wp2_with fail
  refine (none_any _ _ _).mono ?_
  rintro e1 w1 ⟨rfl, hb⟩
  have hbw := ((Below.refl w.heap.size w).alloc (Nat.le_refl _) _).trans (hb.mono (by simp))
  rw [ha]
  clear ha
  go_wp2
  go_ret
  exact ⟨rfl, hbw⟩

set_option maxHeartbeats 2000000 in
theorem heard_yes (p : Nat) (x : Pt) (n : Int) (w : World) (T : Tab w g tr ba ke ho F) (h1 : 1 ≤ p) (h2 : p ≤ 32) (h0 : 0 ≤ n) (h3 : n ≤ 4611686018427387904) (hx : F p = x) (hb : x.b = 3)
    (o1 : 0 ≤ ho) (o2 : ho ≤ 1000000) :
    Calls Try.prog 17 #[.pointer (some ⟨g, 0, none⟩), .int .i64 p, .agg #[.int .u32 x.d, .int .u16 x.e], .int .u64 n] w fun e w' => e = .returned (.bool true) ∧ Tab w' g tr ba ke ho (upd F p { x with k := n + ho }) ∧ w.grownBy w' (some g) := by
  subst hx
  have z0 := T.lt
  go_enter Try.func17, Try.ntmps17
  go_wp2_with fail
  refine (of_yes p (F p) _ (T.alloc _) h1 h2 rfl (by omega)).mono ?_
  rintro e1 w1 ⟨rfl, hc⟩
  have hbw := ((Below.refl w.heap.size w).alloc (Nat.le_refl _) _).trans (hc.mono (by simp))
  have T1 := (T.alloc _).keep hc
  obtain ⟨cb, fb, zb⟩ := ((Blk.new w _ _).keep hc).all
  have ng : w.heap.size ≠ g := by omega
  have ng' : g ≠ w.heap.size := by omega
  clear T hc
  obtain ⟨c0, c1, c2, c3, fz, z⟩ := T1.head
  obtain ⟨e0, e1, e2, e3, e4, e5, e6⟩ := T1.ent (k := p) (by omega) rfl
  rw [hb] at e1
  have Hz := Lib.hid z0
  have Hb := Lib.hid hb
  clear z0
  go_wp2
  go_region
  go_wp2
  go_ret
  exact ⟨rfl, ((T1.putK (by omega)).alloc _).drew, only_drew (only_alloc (only_setCell (only_of_below hbw _) (.inl rfl) _) _)⟩

set_option maxHeartbeats 1000000 in
theorem heard_bad (v : Value) (p i q n : Int) (w : World) (h : p < 1 ∨ 32 < p) :
    Calls Try.prog 17 #[v, .int .i64 p, .agg #[.int .u32 i, .int .u16 q], .int .u64 n] w fun e w' => e = .returned (.bool false) ∧ Below w.heap.size w w' := by
  go_enter Try.func17, Try.ntmps17
  go_wp2_with fail
  refine (of_bad _ p _ h).mono ?_
  rintro e1 w1 ⟨rfl, hc⟩
  have hbw := ((Below.refl w.heap.size w).alloc (Nat.le_refl _) _).trans (hc.mono (by simp))
  clear hc
  go_wp2
  go_ret
  exact ⟨rfl, hbw.alloc hbw.size _⟩
set_option maxHeartbeats 1000000 in
theorem heard_none (p : Nat) (i q n : Int) (w : World) (T : Tab w g tr ba ke ho F) (h1 : 1 ≤ p) (h2 : p ≤ 32) (hb : (F p).b = 0) :
    Calls Try.prog 17 #[.pointer (some ⟨g, 0, none⟩), .int .i64 p, .agg #[.int .u32 i, .int .u16 q], .int .u64 n] w fun e w' => e = .returned (.bool false) ∧ Below w.heap.size w w' := by
  go_enter Try.func17, Try.ntmps17
  go_wp2_with fail
  refine (of_none p _ (T.alloc _) h1 h2 hb).mono ?_
  rintro e1 w1 ⟨rfl, hc⟩
  have hbw := ((Below.refl w.heap.size w).alloc (Nat.le_refl _) _).trans (hc.mono (by simp))
  clear hc T hb
  go_wp2
  go_ret
  exact ⟨rfl, hbw.alloc hbw.size _⟩
set_option maxHeartbeats 1000000 in
theorem heard_late (p : Nat) (i q n : Int) (w : World) (T : Tab w g tr ba ke ho F) (h1 : 1 ≤ p) (h2 : p ≤ 32) (hb : (F p).b ≠ 0) (hn : 4611686018427387904 < n) :
    Calls Try.prog 17 #[.pointer (some ⟨g, 0, none⟩), .int .i64 p, .agg #[.int .u32 i, .int .u16 q], .int .u64 n] w fun e w' => e = .returned (.bool false) ∧ Below w.heap.size w w' := by
  go_enter Try.func17, Try.ntmps17
  go_wp2_with fail
  refine (of_yes p (F p) _ (T.alloc _) h1 h2 rfl hb).mono ?_
  rintro e1 w1 ⟨rfl, hc⟩
  have hbw := ((Below.refl w.heap.size w).alloc (Nat.le_refl _) _).trans (hc.mono (by simp))
  clear hc T hb
  go_wp2
  go_ret
  exact ⟨rfl, hbw.alloc hbw.size _⟩
set_option maxHeartbeats 1000000 in
theorem heard_state (p : Nat) (i q n : Int) (w : World) (T : Tab w g tr ba ke ho F) (h1 : 1 ≤ p) (h2 : p ≤ 32) (hb : (F p).b ≠ 0) (hb3 : (F p).b ≠ 3) (hn : n ≤ 4611686018427387904) :
    Calls Try.prog 17 #[.pointer (some ⟨g, 0, none⟩), .int .i64 p, .agg #[.int .u32 i, .int .u16 q], .int .u64 n] w fun e w' => e = .returned (.bool false) ∧ Below w.heap.size w w' := by
  go_enter Try.func17, Try.ntmps17
  go_wp2_with fail
  refine (of_yes p (F p) _ (T.alloc _) h1 h2 rfl hb).mono ?_
  rintro e1 w1 ⟨rfl, hc⟩
  have hbw := ((Below.refl w.heap.size w).alloc (Nat.le_refl _) _).trans (hc.mono (by simp))
  have h3 := ne_t hb3
  clear hc T hb hb3
  go_wp2
  go_ret
  exact ⟨rfl, hbw.alloc hbw.size _⟩
set_option maxHeartbeats 2000000 in
theorem heard_else (p : Nat) (i q n : Int) (w : World) (T : Tab w g tr ba ke ho F) (h1 : 1 ≤ p) (h2 : p ≤ 32) (hb : (F p).b = 3) (hn : n ≤ 4611686018427387904) (ha : (F p).d ≠ i ∨ (F p).e ≠ q) :
    Calls Try.prog 17 #[.pointer (some ⟨g, 0, none⟩), .int .i64 p, .agg #[.int .u32 i, .int .u16 q], .int .u64 n] w fun e w' => e = .returned (.bool false) ∧ Below w.heap.size w w' := by
  go_enter Try.func17, Try.ntmps17
  go_wp2_with fail
  refine (of_yes p (F p) _ (T.alloc _) h1 h2 rfl (by omega)).mono ?_
  rintro e1 w1 ⟨rfl, hc⟩
  have hbw := ((Below.refl w.heap.size w).alloc (Nat.le_refl _) _).trans (hc.mono (by simp))
  obtain ⟨cb, fb, zb⟩ := ((Blk.new w _ _).keep hc).all
  have Hd := Lib.hid ha
  generalize F p = x at *
  clear hc T ha
  by_cases hd : x.d = i
  · have he := ne_t (Hd.out.resolve_left (fun h => h hd))
    have he' := ne_b (Hd.out.resolve_left (fun h => h hd))
    subst hd
    go_wp2
    go_ret
    exact ⟨rfl, hbw.alloc hbw.size _⟩
  · have he := ne_t hd
    have he' := ne_b hd
    go_wp2
    go_ret
    exact ⟨rfl, hbw.alloc hbw.size _⟩

set_option maxHeartbeats 1000000 in
theorem lost_yes (p : Nat) (w : World) (T : Tab w g tr ba ke ho F) (h1 : 1 ≤ p) (h2 : p ≤ 32) (hb : (F p).b ≠ 0) :
    Calls Try.prog 19 #[.pointer (some ⟨g, 0, none⟩), .int .i64 p] w fun e w' => e = .returned (.bool true) ∧ Tab w' g tr ba ke ho (upd F p Pt.zero) ∧ w.grownBy w' (some g) := by
  go_enter Try.func19, Try.ntmps19
  go_wp2_with fail
  refine (of_yes p (F p) _ T h1 h2 rfl hb).mono ?_
  rintro e1 w1 ⟨rfl, hc⟩
  have T1 := T.keep hc
  have hbw := hc
  clear T hc hb
  obtain ⟨c0, c1, c2, c3, fz, z⟩ := T1.head
  obtain ⟨e0, e1, e2, e3, e4, e5, e6⟩ := T1.ent (k := p) (by omega) rfl
  go_wp2
  go_ret
  exact ⟨rfl, (T1.put7 (by omega)).alloc _, only_alloc (only_set7 (only_of_below hbw _)) _⟩
set_option maxHeartbeats 1000000 in
theorem lost_none (p : Nat) (w : World) (T : Tab w g tr ba ke ho F) (h1 : 1 ≤ p) (h2 : p ≤ 32) (hb : (F p).b = 0) :
    Calls Try.prog 19 #[.pointer (some ⟨g, 0, none⟩), .int .i64 p] w fun e w' => e = .returned (.bool false) ∧ Below w.heap.size w w' := by
  go_enter Try.func19, Try.ntmps19
  go_wp2_with fail
  refine (of_none p _ T h1 h2 hb).mono ?_
  rintro e1 w1 ⟨rfl, hc⟩
  clear T hb
  go_wp2
  go_ret
  exact ⟨rfl, hc.alloc hc.size _⟩
set_option maxHeartbeats 1000000 in
theorem lost_bad (v : Value) (p : Int) (w : World) (h : p < 1 ∨ 32 < p) :
    Calls Try.prog 19 #[v, .int .i64 p] w fun e w' => e = .returned (.bool false) ∧ Below w.heap.size w w' := by
  go_enter Try.func19, Try.ntmps19
  go_wp2_with fail
  refine (of_bad _ p _ h).mono ?_
  rintro e1 w1 ⟨rfl, hc⟩
  go_wp2
  go_ret
  exact ⟨rfl, hc.alloc hc.size _⟩


set_option maxRecDepth 100000 in
set_option maxHeartbeats 2000000 in
theorem step_nothing (k : Nat) (n : Int) (w : World) (T : Tab w g tr ba ke ho F) (hk : k < 33) (h1 : n < (F k).f) :
    Calls Try.prog 32 #[.pointer (some ⟨g, 0, none⟩), .pointer (some ⟨g, 4 + k * 7, none⟩), .int .u64 n] w fun e w' => e = .returned (.int .i64 0) ∧ w = w' := by
  obtain ⟨c0, c1, c2, c3, fz, z⟩ := T.head
  obtain ⟨e0, e1, e2, e3, e4, e5, e6⟩ := T.ent (k := k) hk rfl
  generalize F k = x at *
  clear T
  go_enter Try.func32, Try.ntmps32
  go_wp2
  refine wp_scope_fwd ?_
  go_wp2
  go_step3
  refine ⟨_, rfl, ?_⟩
  go_wp2
  rw [Exit.noGoto_ret]
  go_ret
  exact ⟨rfl, rfl⟩
set_option maxRecDepth 100000 in
set_option maxHeartbeats 2000000 in
theorem step_keep (k : Nat) (n : Int) (w : World) (T : Tab w g tr ba ke ho F) (hk : k < 33) (h0 : 0 ≤ n) (h3 : n ≤ 4611686018427387904) (h1 : (F k).f ≤ n) (hb : (F k).b = 3) (hu : n < (F k).k) (k1 : 0 ≤ ke) (k2 : ke ≤ 1000000) :
    Calls Try.prog 32 #[.pointer (some ⟨g, 0, none⟩), .pointer (some ⟨g, 4 + k * 7, none⟩), .int .u64 n] w fun e w' => e = .returned (.int .i64 2) ∧ Tab w' g tr ba ke ho (upd F k { F k with f := n + ke }) ∧ w.grownBy w' (some g) := by
  obtain ⟨c0, c1, c2, c3, fz, z⟩ := T.head
  obtain ⟨e0, e1, e2, e3, e4, e5, e6⟩ := T.ent (k := k) hk rfl
  rw [hb] at e1
  have Hb := Lib.hid hb
  clear hb
  go_enter Try.func32, Try.ntmps32
  go_wp2
  refine wp_scope_fwd ?_
  go_wp2
  go_step3
  refine ⟨_, rfl, ?_⟩
  go_wp2
  rw [Exit.noGoto_ret]
  go_ret
  exact ⟨rfl, T.putF hk, only_setCell (only_refl _ _) (.inl rfl) _⟩
set_option maxRecDepth 100000 in
set_option maxHeartbeats 2000000 in
theorem step_relay (k : Nat) (n : Int) (w : World) (T : Tab w g tr ba ke ho F) (hk : k < 33) (h0 : 0 ≤ n) (h3 : n ≤ 4611686018427387904) (h1 : (F k).f ≤ n) (hb : (F k).b = 2) (hu : tr ≤ (F k).c) (o1 : 0 ≤ ho) (o2 : ho ≤ 1000000) :
    Calls Try.prog 32 #[.pointer (some ⟨g, 0, none⟩), .pointer (some ⟨g, 4 + k * 7, none⟩), .int .u64 n] w fun e w' => e = .returned (.int .i64 0) ∧ Tab w' g tr ba ke ho (upd F k ⟨(F k).a, 1, (F k).c, 0, 0, n + ho, 0⟩) ∧ w.grownBy w' (some g) := by
  obtain ⟨c0, c1, c2, c3, fz, z⟩ := T.head
  obtain ⟨e0, e1, e2, e3, e4, e5, e6⟩ := T.ent (k := k) hk rfl
  rw [hb] at e1
  have Hb := Lib.hid hb
  clear hb
  go_enter Try.func32, Try.ntmps32
  go_wp2
  refine wp_scope_fwd ?_
  go_wp2
  go_region
  go_wp2
  go_step3
  refine ⟨_, rfl, ?_⟩
  go_wp2
  go_region
  go_wp2
  rw [Exit.noGoto_ret]
  go_ret
  exact ⟨rfl, (T.put7 hk).drew.drew, only_drew (only_drew (only_set7 (only_refl _ _)))⟩

theorem Tab.put7c {w : World} (h : Tab w g tr ba ke ho F) {k : Nat} (hk : k < 33) {a b c d e f q c' : Int} :
    Tab ((((((((w.setCell ⟨g, 4 + k * 7, none⟩ (.int .i64 a)).setCell ⟨g, 4 + k * 7 + 1, none⟩ (.int .i64 b)).setCell ⟨g, 4 + k * 7 + 2, none⟩ (.int .i64 c)).setCell ⟨g, 4 + k * 7 + 3, none⟩ (.int .u32 d)).setCell ⟨g, 4 + k * 7 + 4, none⟩ (.int .u16 e)).setCell ⟨g, 4 + k * 7 + 5, none⟩ (.int .u64 f)).setCell ⟨g, 4 + k * 7 + 6, none⟩ (.int .u64 q)).setCell ⟨g, 4 + k * 7 + 2, none⟩ (.int .i64 c')) g tr ba ke ho (upd F k ⟨a, b, c', d, e, f, q⟩) := by
  have T1 := (h.put7 hk (a := a) (b := b) (c := c) (d := d) (e := e) (f := f) (q := q)).putC hk (f := c')
  rw [upd_upd, upd_at] at T1
  exact T1
theorem shl_in {ba n : Int} (b1 : 0 ≤ ba) (b2 : ba ≤ 1000000) (h0 : 0 ≤ n) (h3 : n ≤ 4611686018427387904) {c : Int} (c1 : 0 ≤ c) (c2 : c < 8) :
    IntKind.u64.wrap (n + IntKind.u64.wrap (ba * 2 ^ c.toNat)) = n + ba * 2 ^ c.toNat := by
  have h : c = 0 ∨ c = 1 ∨ c = 2 ∨ c = 3 ∨ c = 4 ∨ c = 5 ∨ c = 6 ∨ c = 7 := by omega
  have hp : 1 ≤ (2 : Int) ^ c.toNat ∧ (2 : Int) ^ c.toNat ≤ 128 := by
    rcases h with rfl | rfl | rfl | rfl | rfl | rfl | rfl | rfl <;> decide
  generalize (2 : Int) ^ c.toNat = m at hp
  have hb : 0 ≤ ba * m := Int.mul_nonneg b1 (by omega)
  have hb' : ba * m ≤ 1000000 * 128 := Int.le_trans (Int.mul_le_mul_of_nonneg_right b2 (by omega)) (Int.mul_le_mul_of_nonneg_left hp.2 (by omega))
  generalize ba * m = q at hb hb'
  rw [show IntKind.u64.wrap q = q from IntWalk.u64_in _ (by omega)]
  exact IntWalk.u64_in _ (by omega)
theorem wp_world {P : Program} {c : Code} {Q : Exit → Act → World → Prop} {a : Act} {w : World} (R : World → Prop) (hR : R w) (h : ∀ w', R w' → c.wp P Q a w') : c.wp P Q a w := h w hR

set_option maxRecDepth 100000 in
set_option maxHeartbeats 2000000 in
theorem step_try (k : Nat) (n : Int) (w : World) (T : Tab w g tr ba ke ho F) (hk : k < 33) (h0 : 0 ≤ n) (h3 : n ≤ 4611686018427387904) (h1 : (F k).f ≤ n) (hb : (F k).b = 2) (hu : (F k).c < tr) (hc1 : 0 ≤ (F k).c) (hc2 : tr ≤ 8) (b1 : 0 ≤ ba) (b2 : ba ≤ 1000000) :
    Calls Try.prog 32 #[.pointer (some ⟨g, 0, none⟩), .pointer (some ⟨g, 4 + k * 7, none⟩), .int .u64 n] w fun e w' => e = .returned (.int .i64 1) ∧ Tab w' g tr ba ke ho (upd F k { F k with c := (F k).c + 1, f := n + ba * 2 ^ (F k).c.toNat }) ∧ w.grownBy w' (some g) := by
  obtain ⟨c0, c1, c2, c3, fz, z⟩ := T.head
  obtain ⟨e0, e1, e2, e3, e4, e5, e6⟩ := T.ent (k := k) hk rfl
  rw [hb] at e1
  have Hb := Lib.hid hb
  clear hb
  go_enter Try.func32, Try.ntmps32
  go_wp2
  refine wp_scope_fwd ?_
  go_wp2
  go_region
  go_wp2_with fail
  go_upto_region 7 with (fail)
  refine wp_world (fun W => Tab W g tr ba ke ho (upd F k { F k with c := (F k).c + 1 }) ∧ w.grownBy W (some g)) ⟨(T.putC hk).drew, only_drew (only_setCell (only_refl _ _) (.inl rfl) _)⟩ ?_
  clear c0 c1 c2 c3 fz z e0 e1 e2 e3 e4 e5 e6
  rintro w2 ⟨T2, hg⟩
  obtain ⟨c0, c1, c2, c3, fz, z⟩ := T2.head
  obtain ⟨e0, e1, e2, e3, e4, e5, e6⟩ := T2.ent (k := k) hk (upd_at _ _ _)
  dsimp only at e0 e1 e2 e3 e4 e5 e6
  go_region
  go_wp2
  rw [Exit.fwd_ret, shl_in b1 b2 h0 h3 hc1 (by omega)]
  go_ret
  have T3 := T2.putF hk (f := n + ba * 2 ^ (F k).c.toNat)
  rw [upd_upd, upd_at] at T3
  exact ⟨rfl, T3.drew, only_drew (only_setCell hg (.inl rfl) _)⟩
set_option maxRecDepth 100000 in
set_option maxHeartbeats 2000000 in
theorem step_anew (k : Nat) (n : Int) (w : World) (T : Tab w g tr ba ke ho F) (hk : k < 33) (h0 : 0 ≤ n) (h3 : n ≤ 4611686018427387904) (h1 : (F k).f ≤ n) (hb : (F k).b ≠ 2) (hu : (F k).b = 3 → (F k).k ≤ n) (b1 : 0 ≤ ba) (b2 : ba ≤ 1000000) :
    Calls Try.prog 32 #[.pointer (some ⟨g, 0, none⟩), .pointer (some ⟨g, 4 + k * 7, none⟩), .int .u64 n] w fun e w' => e = .returned (.int .i64 1) ∧ Tab w' g tr ba ke ho (upd F k ⟨(F k).a, 2, 1, 0, 0, n + ba, 0⟩) ∧ w.grownBy w' (some g) := by
  obtain ⟨c0, c1, c2, c3, fz, z⟩ := T.head
  obtain ⟨e0, e1, e2, e3, e4, e5, e6⟩ := T.ent (k := k) hk rfl
  have hb1 := ne_b hb
  have hb2 := ne_t hb
  have Hu := Lib.hid hu
  clear hu hb
  by_cases h3 : (F k).b = 3
  · have hu := Hu.out h3
    have hb3 : ((F k).b == 3) = true := beq_iff_eq.2 h3
    clear h3
    have Hn := Lib.hid hb3
    go_enter Try.func32, Try.ntmps32
    go_wp2
    refine wp_scope_fwd ?_
    go_wp2
    go_region
    go_upto_region 7 with (fail)
    have T2 := (T.put7c hk (a := (F k).a) (b := 2) (c := 0) (d := 0) (e := 0) (f := 0) (q := 0) (c' := 1)).drew
    have O2 : w.grownBy _ (some g) := only_drew (only_setCell (p := ⟨g, 4 + k * 7 + 2, none⟩) (only_set7 (only_refl w (some g)) (o0 := 4 + k * 7) (o1 := 4 + k * 7 + 1) (o2 := 4 + k * 7 + 2) (o3 := 4 + k * 7 + 3) (o4 := 4 + k * 7 + 4) (o5 := 4 + k * 7 + 5) (o6 := 4 + k * 7 + 6) (v0 := .int .i64 (F k).a) (v1 := .int .i64 2) (v2 := .int .i64 0) (v3 := .int .u32 0) (v4 := .int .u16 0) (v5 := .int .u64 0) (v6 := .int .u64 0)) (.inl rfl) (.int .i64 1))
    refine wp_world (fun W => Tab W g tr ba ke ho (upd F k ⟨(F k).a, 2, 1, 0, 0, 0, 0⟩) ∧ w.grownBy W (some g)) ⟨T2, O2⟩ ?_
    clear c0 c1 c2 c3 fz z e0 e1 e2 e3 e4 e5 e6 T2 O2
    rintro w2 ⟨T2, hg⟩
    obtain ⟨c0, c1, c2, c3, fz, z⟩ := T2.head
    obtain ⟨e0, e1, e2, e3, e4, e5, e6⟩ := T2.ent (k := k) hk (upd_at _ _ _)
    dsimp only at e0 e1 e2 e3 e4 e5 e6
    go_region
    go_wp2
    rw [Exit.fwd_ret]
    go_ret
    have T3 := T2.putF hk (f := n + ba)
    rw [upd_upd, upd_at] at T3
    exact ⟨rfl, T3.drew, only_drew (only_setCell hg (.inl rfl) _)⟩
  · have hb3 := ne_b h3
    go_enter Try.func32, Try.ntmps32
    go_wp2
    refine wp_scope_fwd ?_
    go_wp2
    go_region
    go_upto_region 7 with (fail)
    have T2 := (T.put7c hk (a := (F k).a) (b := 2) (c := 0) (d := 0) (e := 0) (f := 0) (q := 0) (c' := 1)).drew
    have O2 : w.grownBy _ (some g) := only_drew (only_setCell (p := ⟨g, 4 + k * 7 + 2, none⟩) (only_set7 (only_refl w (some g)) (o0 := 4 + k * 7) (o1 := 4 + k * 7 + 1) (o2 := 4 + k * 7 + 2) (o3 := 4 + k * 7 + 3) (o4 := 4 + k * 7 + 4) (o5 := 4 + k * 7 + 5) (o6 := 4 + k * 7 + 6) (v0 := .int .i64 (F k).a) (v1 := .int .i64 2) (v2 := .int .i64 0) (v3 := .int .u32 0) (v4 := .int .u16 0) (v5 := .int .u64 0) (v6 := .int .u64 0)) (.inl rfl) (.int .i64 1))
    refine wp_world (fun W => Tab W g tr ba ke ho (upd F k ⟨(F k).a, 2, 1, 0, 0, 0, 0⟩) ∧ w.grownBy W (some g)) ⟨T2, O2⟩ ?_
    clear c0 c1 c2 c3 fz z e0 e1 e2 e3 e4 e5 e6 T2 O2
    rintro w2 ⟨T2, hg⟩
    obtain ⟨c0, c1, c2, c3, fz, z⟩ := T2.head
    obtain ⟨e0, e1, e2, e3, e4, e5, e6⟩ := T2.ent (k := k) hk (upd_at _ _ _)
    dsimp only at e0 e1 e2 e3 e4 e5 e6
    go_region
    go_wp2
    rw [Exit.fwd_ret]
    go_ret
    have T3 := T2.putF hk (f := n + ba)
    rw [upd_upd, upd_at] at T3
    exact ⟨rfl, T3.drew, only_drew (only_setCell hg (.inl rfl) _)⟩


/-- The table's numbers are in their bounds. -/
structure Num (tr ba ke ho : Int) : Prop where
  t1 : 1 ≤ tr
  t2 : tr ≤ 8
  b1 : 1 ≤ ba
  b2 : ba ≤ 1000000
  k1 : 1 ≤ ke
  k2 : ke ≤ 1000000
  o1 : 1 ≤ ho
  o2 : ho ≤ 1000000

/-- One path goes on: what it is then, what is to be sent (0: nothing). -/
def stepF (tr ba ke ho n : Int) (x : Pt) : Pt × Int :=
  if n < x.f then (x, 0)
  else if x.b = 3 ∧ n < x.k then ({ x with f := n + ke }, 2)
  else if x.b = 2 ∧ tr ≤ x.c then (⟨x.a, 1, x.c, 0, 0, n + ho, 0⟩, 0)
  else if x.b = 2 then ({ x with c := x.c + 1, f := n + ba * 2 ^ x.c.toNat }, 1)
  else (⟨x.a, 2, 1, 0, 0, n + ba, 0⟩, 1)

theorem upd_same (F : Nat → Pt) (k : Nat) : upd F k (F k) = F := by
  funext i; unfold upd; split
  · rename_i h; rw [h]
  · rfl

theorem step_any (N : Num tr ba ke ho) (k : Nat) (n : Int) (w : World) (T : Tab w g tr ba ke ho F) (hk : k < 33) (h0 : 0 ≤ n) (h3 : n ≤ 4611686018427387904) (hc : 0 ≤ (F k).c) :
    Calls Try.prog 32 #[.pointer (some ⟨g, 0, none⟩), .pointer (some ⟨g, 4 + k * 7, none⟩), .int .u64 n] w fun e w' => e = .returned (.int .i64 (stepF tr ba ke ho n (F k)).2) ∧ Tab w' g tr ba ke ho (upd F k (stepF tr ba ke ho n (F k)).1) ∧ w.grownBy w' (some g) := by
  have := N.t1; have := N.t2; have := N.b1; have := N.b2; have := N.k1; have := N.k2; have := N.o1; have := N.o2
  unfold stepF
  by_cases c1 : n < (F k).f
  · rw [if_pos c1]
    refine (step_nothing k n w T hk c1).mono ?_
    rintro e w' ⟨he, rfl⟩
    exact ⟨he, by rw [upd_same]; exact T, only_refl _ _⟩
  · rw [if_neg c1]
    by_cases c2 : (F k).b = 3 ∧ n < (F k).k
    · rw [if_pos c2]
      exact step_keep k n w T hk h0 h3 (by omega) c2.1 c2.2 (by omega) (by omega)
    · rw [if_neg c2]
      by_cases c3 : (F k).b = 2 ∧ tr ≤ (F k).c
      · rw [if_pos c3]
        exact step_relay k n w T hk h0 h3 (by omega) c3.1 c3.2 (by omega) (by omega)
      · rw [if_neg c3]
        by_cases c4 : (F k).b = 2
        · rw [if_pos c4]
          exact step_try k n w T hk h0 h3 (by omega) c4 (by omega) hc (by omega) (by omega) (by omega)
        · rw [if_neg c4]
          exact step_anew k n w T hk h0 h3 (by omega) c4 (fun h => by omega) (by omega) (by omega)

theorem flat_at (row : List Value) (hr : row.length = 7) (j : Nat) (hj : j < 7) : ∀ (n k : Nat), k < n → ((List.replicate n row).flatten)[k * 7 + j]? = row[j]?
  | 0, k, h => by omega
  | n + 1, 0, _ => by
    rw [List.replicate_succ, List.flatten_cons, List.getElem?_append_left (by omega)]
    simp
  | n + 1, k + 1, h => by
    rw [List.replicate_succ, List.flatten_cons, List.getElem?_append_right (by omega), show (k + 1) * 7 + j - row.length = k * 7 + j by omega]
    exact flat_at row hr j hj n k (by omega)
theorem flat_len (row : List Value) (hr : row.length = 7) : ∀ n : Nat, ((List.replicate n row).flatten).length = n * 7
  | 0 => rfl
  | n + 1 => by rw [List.replicate_succ, List.flatten_cons, List.length_append, flat_len row hr n, hr]; omega
def zeroRow : List Value := [Value.int .i64 0, .int .i64 0, .int .i64 0, .int .u32 0, .int .u16 0, .int .u64 0, .int .u64 0]
def newList (tr ba ke ho : Int) : List Value := Value.int .i64 tr :: Value.int .u64 ba :: Value.int .u64 ke :: Value.int .u64 ho :: (List.replicate 33 zeroRow).flatten
def newCells (tr ba ke ho : Int) : Array Value := (newList tr ba ke ho).toArray
theorem new_len : (newCells tr ba ke ho).size = 235 := by
  have h := flat_len zeroRow rfl 33
  generalize hn : (List.replicate 33 zeroRow).flatten = l at h
  unfold newCells newList
  rw [hn, List.size_toArray]
  simp only [List.length_cons]
  omega
theorem new_tab {w : World} (h : Blk w g 72 (newCells tr ba ke ho)) : Tab w g tr ba ke ho (fun _ => Pt.zero) := by
  refine ⟨⟨_, h, new_len, ?_, ?_, ?_, ?_, ?_⟩⟩
  · unfold newCells newList; rw [List.getElem?_toArray]; rfl
  · unfold newCells newList; rw [List.getElem?_toArray]; rfl
  · unfold newCells newList; rw [List.getElem?_toArray]; rfl
  · unfold newCells newList; rw [List.getElem?_toArray]; rfl
  intro k j hk hj
  have hf := flat_at zeroRow rfl j hj 33 k hk
  generalize hn : (List.replicate 33 zeroRow).flatten = l at hf
  unfold newCells newList
  rw [hn, List.getElem?_toArray, show 4 + k * 7 + j = (k * 7 + j) + 1 + 1 + 1 + 1 by omega]
  simp only [List.getElem?_cons_succ]
  rw [hf]
  match j, hj with
  | 0, _ | 1, _ | 2, _ | 3, _ | 4, _ | 5, _ | 6, _ => rfl
theorem wpList_build {P : Program} {ops : Array Oper} {rest : List Oper} {o : Oper} {a : Act} {w : World} {Q : Exit → Act → World → Prop} (hgd : o.guard = none) (t : TypeId) (parts : Array (Nat × Operand)) (ho : o.op = .build t parts)
    (cells : Array Value) (hc : P.built t (parts.map fun (i, x) => (i, a.eval x)).toList = some cells) (h : wpList P ops Q rest (a.put o.dst (.agg cells)) w) : wpList P ops Q (o :: rest) a w :=
  wpList_plain hgd fun _ hK => wp_build t parts ho (by rw [hc]; rfl) (hK _ _ (by rw [hc]; exact h))
set_option maxRecDepth 100000 in
set_option maxHeartbeats 2000000 in
theorem new_ok (N : Num tr ba ke ho) (w : World) : Calls Try.prog 10 #[.int .i64 tr, .int .u64 ba, .int .u64 ke, .int .u64 ho] w fun e w' => e = .returned (.tuple #[.pointer (some ⟨w.heap.size, 0, none⟩), .int .i64 0]) ∧ Below w.heap.size w w' ∧ Tab w' w.heap.size tr ba ke ho (fun _ => Pt.zero) := by
  have := N.t1; have := N.t2; have := N.b1; have := N.b2; have := N.k1; have := N.k2; have := N.o1; have := N.o2
  have hmn : ((if ho < if ke < ba then ke else ba then ho else if ke < ba then ke else ba) == 0) = false := ne_b (by split <;> split <;> omega)
  have hmx : ¬ (1000000 < if (if ba < ke then ke else ba) < ho then ho else if ba < ke then ke else ba) := by split <;> split <;> omega
  have hb : Try.prog.built 72 [(0, .int .i64 tr), (1, .int .u64 ba), (2, .int .u64 ke), (3, .int .u64 ho)] = some (newCells tr ba ke ho) := by kernel_rfl
  have Hb := Lib.hid hb
  clear hb
  go_enter Try.func10, Try.ntmps10
  go_upto_region 3 with (fail)
  go_wp2_with (refine wpList_build rfl 72 _ rfl (newCells tr ba ke ho) ?hc ?_; (case hc => (go_simp; exact Hb.out)))
  all_goals (go_ret2; exact ⟨rfl, (Below.refl _ _).alloc (Nat.le_refl _) _, new_tab (Blk.new _ _ _)⟩)

set_option maxRecDepth 100000 in
set_option maxHeartbeats 2000000 in
theorem new_tries (w : World) (h : tr < 1 ∨ 8 < tr) : Calls Try.prog 10 #[.int .i64 tr, .int .u64 ba, .int .u64 ke, .int .u64 ho] w fun e w' => e = .returned (.tuple #[.pointer none, .int .i64 1]) ∧ w = w' := by
  by_cases h1 : tr < 1
  · go_enter Try.func10, Try.ntmps10
    go_wp2
    go_ret2
    exact ⟨rfl, rfl⟩
  · have h2 : 8 < tr := by omega
    go_enter Try.func10, Try.ntmps10
    go_wp2
    go_ret2
    exact ⟨rfl, rfl⟩
set_option maxRecDepth 100000 in
set_option maxHeartbeats 2000000 in
theorem new_zero (w : World) (h1 : 1 ≤ tr) (h2 : tr ≤ 8) (b0 : 0 ≤ ba) (k0 : 0 ≤ ke) (o0 : 0 ≤ ho) (h : ba = 0 ∨ ke = 0 ∨ ho = 0) : Calls Try.prog 10 #[.int .i64 tr, .int .u64 ba, .int .u64 ke, .int .u64 ho] w fun e w' => e = .returned (.tuple #[.pointer none, .int .i64 1]) ∧ w = w' := by
  have hmn : ((if ho < if ke < ba then ke else ba then ho else if ke < ba then ke else ba) == 0) = true := beq_iff_eq.2 (by split <;> split at * <;> omega)
  clear h
  go_enter Try.func10, Try.ntmps10
  go_wp2
  all_goals (go_ret2; exact ⟨rfl, rfl⟩)
set_option maxRecDepth 100000 in
set_option maxHeartbeats 2000000 in
theorem new_big (w : World) (h1 : 1 ≤ tr) (h2 : tr ≤ 8) (b0 : 1 ≤ ba) (k0 : 1 ≤ ke) (o0 : 1 ≤ ho) (h : 1000000 < ba ∨ 1000000 < ke ∨ 1000000 < ho) : Calls Try.prog 10 #[.int .i64 tr, .int .u64 ba, .int .u64 ke, .int .u64 ho] w fun e w' => e = .returned (.tuple #[.pointer none, .int .i64 1]) ∧ w = w' := by
  have hmn : ((if ho < if ke < ba then ke else ba then ho else if ke < ba then ke else ba) == 0) = false := ne_b (by split <;> split <;> omega)
  have hmx : 1000000 < if (if ba < ke then ke else ba) < ho then ho else if ba < ke then ke else ba := by split <;> split <;> omega
  clear h
  go_enter Try.func10, Try.ntmps10
  go_wp2
  all_goals (go_ret2; exact ⟨rfl, rfl⟩)


theorem info52 : (Try.prog.info? 52).map (fun i => (i.zero, i.size, i.bytes)) = some (some (.agg #[.int .i64 0, .int .i64 0]), 2, 16) := by kernel_rfl
theorem owns_only {w w' : World} {base : Nat} {e : TypeId} {size n g : Nat} {v : Value} {xs : List Value} (h : w.ownsRow base e size v n xs) (hb : w.grownBy w' (some g)) (hg : g < base) : w'.ownsRow base e size v n xs := by
  obtain ⟨h1, h2⟩ := h
  refine ⟨h1, ?_⟩
  rcases h2 with h2 | ⟨g', cap, cur, hv, hg', hh, r⟩
  · exact .inl h2
  · have hlt := (Array.getElem?_eq_some_iff.1 hh).1
    exact .inr ⟨g', cap, cur, hv, hg', (hb.block g' hlt (fun e => by injection e with e; omega)).trans hh, r⟩
theorem owns_not {w : World} {base : Nat} {e : TypeId} {size n g : Nat} {v : Value} {xs : List Value} (h : w.ownsRow base e size v n xs) (hg : g < base) : v.ownBlock ≠ some g := by
  rcases h.2 with ⟨rfl, _⟩ | ⟨g', cap, cur, rfl, hb, _⟩
  · simp [Value.ownBlock]
  · intro he
    have : g' = g := by simpa [Value.ownBlock] using he
    omega
theorem only_own {a w w' : World} {g : Nat} {e : TypeId} {size n : Nat} {v : Value} {xs : List Value} (h : a.grownBy w (some g)) (hown : w.ownsRow a.heap.size e size v n xs) (hg : w.grownBy w' v.ownBlock) : a.grownBy w' (some g) :=
  ⟨hg.os.trans h.os, hg.tape.trans h.tape, hg.output.trans h.output, Nat.le_trans h.size hg.size, fun i hi hne => (hg.block i (Nat.lt_of_lt_of_le hi h.size) (fun e => owns_not hown hi e.symm)).trans (h.block i hi hne)⟩
theorem Tab.own {w w' : World} (h : Tab w g tr ba ke ho F) {v : Value} (hb : w.grownBy w' v.ownBlock) (hr : v.ownBlock ≠ some g) : Tab w' g tr ba ke ho F := by
  obtain ⟨cs, hB, hq⟩ := h.has
  exact ⟨cs, ⟨(hb.block g hB.lt (fun e => hr e.symm)).trans hB.out⟩, hq⟩

/-- The table when the first k paths have gone on. -/
def dueF (tr ba ke ho n : Int) (F : Nat → Pt) (k : Nat) : Nat → Pt := fun i => if i < k ∧ (F i).b ≠ 0 then (stepF tr ba ke ho n (F i)).1 else F i
/-- What is to be sent to the first k peers. -/
def dueL (tr ba ke ho n : Int) (F : Nat → Pt) : Nat → List (Int × Int)
  | 0 => []
  | k + 1 => dueL tr ba ke ho n F k ++ (if (F k).b ≠ 0 ∧ 0 < (stepF tr ba ke ho n (F k)).2 then [((k : Int), (stepF tr ba ke ho n (F k)).2)] else [])
def sends : List (Int × Int) → List Value
  | [] => []
  | (p, q) :: l => .int .i64 p :: .int .i64 q :: sends l
theorem sends_append (l m : List (Int × Int)) : sends (l ++ m) = sends l ++ sends m := by
  induction l with
  | nil => rfl
  | cons x l ih => obtain ⟨p, q⟩ := x; simp [sends, ih]
theorem dueL_len (tr ba ke ho n : Int) (F : Nat → Pt) : ∀ k, (dueL tr ba ke ho n F k).length ≤ k
  | 0 => Nat.le_refl _
  | k + 1 => by
    have := dueL_len tr ba ke ho n F k
    unfold dueL
    rw [List.length_append]
    split <;> simp <;> omega
theorem dueF_zero (tr ba ke ho n : Int) (F : Nat → Pt) : dueF tr ba ke ho n F 0 = F := by
  funext i; simp [dueF]
theorem dueF_at (tr ba ke ho n : Int) (F : Nat → Pt) (k : Nat) : dueF tr ba ke ho n F k k = F k := by simp [dueF]
theorem dueF_skip (tr ba ke ho n : Int) (F : Nat → Pt) (k : Nat) (h : (F k).b = 0) : dueF tr ba ke ho n F (k + 1) = dueF tr ba ke ho n F k := by
  funext i
  unfold dueF
  by_cases e : i = k
  · subst e; simp [h]
  · have h1 : (i < k + 1 ∧ (F i).b ≠ 0) ↔ (i < k ∧ (F i).b ≠ 0) := by omega
    simp only [h1]
theorem dueF_step (tr ba ke ho n : Int) (F : Nat → Pt) (k : Nat) (h : (F k).b ≠ 0) : dueF tr ba ke ho n F (k + 1) = upd (dueF tr ba ke ho n F k) k (stepF tr ba ke ho n (F k)).1 := by
  funext i
  unfold dueF upd
  by_cases e : i = k
  · subst e; simp [h]
  · rw [if_neg e]
    have h1 : (i < k + 1 ∧ (F i).b ≠ 0) ↔ (i < k ∧ (F i).b ≠ 0) := by omega
    simp only [h1]
theorem dueL_skip (tr ba ke ho n : Int) (F : Nat → Pt) (k : Nat) (h : (F k).b = 0 ∨ ¬ 0 < (stepF tr ba ke ho n (F k)).2) : dueL tr ba ke ho n F (k + 1) = dueL tr ba ke ho n F k := by
  have : ¬ ((F k).b ≠ 0 ∧ 0 < (stepF tr ba ke ho n (F k)).2) := by omega
  show dueL tr ba ke ho n F k ++ _ = _
  rw [if_neg this, List.append_nil]
theorem dueL_step (tr ba ke ho n : Int) (F : Nat → Pt) (k : Nat) (h : (F k).b ≠ 0) (h2 : 0 < (stepF tr ba ke ho n (F k)).2) : dueL tr ba ke ho n F (k + 1) = dueL tr ba ke ho n F k ++ [((k : Int), (stepF tr ba ke ho n (F k)).2)] := by
  show dueL tr ba ke ho n F k ++ _ = _
  rw [if_pos ⟨h, h2⟩]

set_option maxHeartbeats 400000 in
theorem due_late (v : Value) (n : Int) (w : World) (h : 4611686018427387904 < n) : Calls Try.prog 21 #[v, .int .u64 n] w fun e w' => e = .returned (.slice none 0 0) ∧ w = w' := by
  go_enter Try.func21, Try.ntmps21
  go_wp2
  go_ret
  exact ⟨rfl, rfl⟩

theorem two_new (w : World) (t : TypeId) (a b : Value) : ∀ (j : Nat) (u : Value), [a, b][j]? = some u → (w.alloc (.cells #[a, b] t)).cell? ((⟨w.heap.size, 0, none⟩ : Addr).add j) = some u := by
  intro j u h
  match j, h with
  | 0, h =>
    simp only [List.getElem?_cons_zero, Option.some.injEq] at h
    subst h
    exact (Blk.new w t #[a, b]).cell 0
  | 1, h =>
    simp only [List.getElem?_cons_succ, List.getElem?_cons_zero, Option.some.injEq] at h
    subst h
    exact (Blk.new w t #[a, b]).cell 1
  | n + 2, h => simp at h
def DueR (tr ba ke ho n : Int) (F : Nat → Pt) (g : Nat) (w : World) (k : Nat) (v : Value) (wr : World) : Prop :=
  Tab wr g tr ba ke ho (dueF tr ba ke ho n F k) ∧ wr.ownsRow w.heap.size 52 2 v (dueL tr ba ke ho n F k).length (sends (dueL tr ba ke ho n F k)) ∧ w.grownBy wr (some g)
theorem DueR.skip {n : Int} {w wr : World} {k : Nat} {v : Value} (h : DueR tr ba ke ho n F g w k v wr) (hb : (F k).b = 0) : DueR tr ba ke ho n F g w (k + 1) v wr := by
  obtain ⟨h1, h2, h3⟩ := h
  exact ⟨by rw [dueF_skip _ _ _ _ _ _ _ hb]; exact h1, by rw [dueL_skip _ _ _ _ _ _ _ (.inl hb)]; exact h2, h3⟩
theorem DueR.quiet {n : Int} {w wr w2 : World} {k : Nat} {v : Value} (h : DueR tr ba ke ho n F g w k v wr) (hg : g < w.heap.size) (hb : (F k).b ≠ 0) (T : Tab w2 g tr ba ke ho (upd (dueF tr ba ke ho n F k) k (stepF tr ba ke ho n (F k)).1)) (ho2 : wr.grownBy w2 (some g))
    (hq : ¬ 0 < (stepF tr ba ke ho n (F k)).2) : DueR tr ba ke ho n F g w (k + 1) v w2 := by
  obtain ⟨h1, h2, h3⟩ := h
  exact ⟨by rw [dueF_step _ _ _ _ _ _ _ hb]; exact T, by rw [dueL_skip _ _ _ _ _ _ _ (.inr hq)]; exact owns_only h2 ho2 hg, only_trans h3 ho2⟩
theorem DueR.more {n : Int} {w wr w2 w3 : World} {k : Nat} {v v' : Value} {o : Obj} (h : DueR tr ba ke ho n F g w k v wr) (hg : g < w.heap.size) (hb : (F k).b ≠ 0) (T : Tab w2 g tr ba ke ho (upd (dueF tr ba ke ho n F k) k (stepF tr ba ke ho n (F k)).1)) (ho2 : wr.grownBy w2 (some g))
    (hq : 0 < (stepF tr ba ke ho n (F k)).2) (hown : w3.ownsRow w.heap.size 52 2 v' ((dueL tr ba ke ho n F k).length + 1) (sends (dueL tr ba ke ho n F k) ++ [.int .i64 k, .int .i64 (stepF tr ba ke ho n (F k)).2])) (hgr : (w2.alloc o).grownBy w3 v.ownBlock) : DueR tr ba ke ho n F g w (k + 1) v' w3 := by
  obtain ⟨h1, h2, h3⟩ := h
  have hown2 := (owns_only h2 ho2 hg).alloc o
  refine ⟨by rw [dueF_step _ _ _ _ _ _ _ hb]; exact (T.alloc o).own hgr (owns_not hown2 hg), ?_, only_own (only_alloc (only_trans h3 ho2) o) hown2 hgr⟩
  rw [dueL_step _ _ _ _ _ _ _ hb hq, sends_append, List.length_append]
  exact hown
set_option maxRecDepth 100000 in
set_option maxHeartbeats 4000000 in
theorem due_any (N : Num tr ba ke ho) (n : Int) (w : World) (T : Tab w g tr ba ke ho F) (h0 : 0 ≤ n) (h3 : n ≤ 4611686018427387904) (hc : ∀ k, k < 33 → 0 ≤ (F k).c) :
    Calls Try.prog 21 #[.pointer (some ⟨g, 0, none⟩), .int .u64 n] w fun e w' => ∃ v, e = .returned v ∧ DueR tr ba ke ho n F g w 33 v w' := by
  have hg := T.lt
  obtain ⟨i0, hi, hz0, hz1, hz2⟩ := info_parts info52
  have Hi := Lib.hid hi
  have Hz0 := Lib.hid hz0
  have Hz1 := Lib.hid hz1
  have Hz2 := Lib.hid hz2
  clear hi hz0 hz1 hz2
  go_enter Try.func21, Try.ntmps21
  go_wp2_with fail
  go_loopw [5, 11] (fun v5 v11 wr => ∃ k : Nat, k ≤ 33 ∧ v11 = .int .i64 k ∧ DueR tr ba ke ho n F g w k v5 wr) (fun _ v11 _ => 33 - (intOf v11).toNat)
  case atStart => exact ⟨0, by omega, rfl, by rw [dueF_zero]; exact T, ⟨rfl, .inl ⟨rfl, rfl⟩⟩, only_refl _ _⟩
  case round =>
    obtain ⟨k, hk, rfl, D⟩ := hrel
    by_cases hlt : k < 33
    · obtain ⟨c0, c1, c2, c3, fz, z⟩ := D.1.head
      obtain ⟨e0, e1, e2, e3, e4, e5, e6⟩ := D.1.ent (k := k) (by omega) (dueF_at _ _ _ _ _ _ _)
      by_cases hb : (F k).b = 0
      · rw [hb] at e1
        have Hb := Lib.hid hb
        clear hb
        go_wp2
        go_roundw
        case rel => exact ⟨k + 1, by omega, by go_num, D.skip Hb.out⟩
        case measure => simp [intOf]; omega
      · have hb' := ne_b hb
        have S := fun w0 h => step_any (g := g) (F := dueF tr ba ke ho n F k) N k n w0 h hlt h0 h3 (by rw [dueF_at]; exact hc k hlt)
        rw [dueF_at] at S
        have HS := Lib.hid S
        clear S
        go_wp2_with fail
        refine (HS.out _ D.1).mono ?_
        rintro e1 w2 ⟨rfl, T2, hg2⟩
        have hd := fun hq => D.quiet hg hb T2 hg2 hq
        have hm := fun o v' w3 hq hown hgr => D.more (v' := v') (w3 := w3) (o := o) hg hb T2 hg2 hq hown hgr
        have hown := owns_only D.2.1 hg2 hg
        have hlen := dueL_len tr ba ke ho n F k
        have hz2 : w.heap.size ≤ w2.heap.size := Nat.le_trans D.2.2.size hg2.size
        have hs2 := hg2.size
        clear T2 hg2 c0 c1 c2 c3 fz z e0 e1 e2 e3 e4 e5 e6 HS D hc T
        by_cases hq : 0 < (stepF tr ba ke ho n (F k)).2
        · have hm := fun o v' w3 h1 h2 => hm o v' w3 hq h1 h2
          clear hd
          generalize (stepF tr ba ke ho n (F k)).2 = q at *
          generalize hL : (dueL tr ba ke ho n F k).length = len at *
          clear hL
          have HL := Lib.hid hm
          clear hm
          go_wp2_with (at_builtin; refine wpList_append_own _ rfl _ _ 47 rfl w.heap.size 52 i0 (.agg #[.int .i64 0, .int .i64 0]) 2 16 Try.underlying47 Hi.out Hz0.out Hz1.out Hz2.out rfl (by decide) _ _ _ rfl (hown.alloc _) ⟨w2.heap.size, 0, none⟩ 1 1 [.int .i64 k, .int .i64 q] rfl rfl ?c1 ?c2 ?c3 ?c4 ?c5 ?_)
          case c1 => exact two_new _ _ _ _
          case c2 => intro u hu; simp only [List.mem_cons, List.not_mem_nil, or_false] at hu; rcases hu with rfl | rfl <;> rfl
          case c3 => unfold maxLen; omega
          case c4 => omega
          case c5 => rw [World.size_alloc]; omega
          intro v' w3 hown' hgrow _
          have D2 := HL.out _ v' w3 hown' hgrow
          clear hown' hgrow hown HL
          go_wp2
          go_roundw
          case rel => exact ⟨k + 1, by omega, by go_num, D2⟩
          case measure => simp [intOf]; omega
        · have D2 := hd hq
          clear hd hm
          generalize (stepF tr ba ke ho n (F k)).2 = q at *
          go_wp2
          go_roundw
          case rel => exact ⟨k + 1, by omega, by go_num, D2⟩
          case measure => simp [intOf]; omega
    · obtain rfl : k = 33 := by omega
      go_wp2
      go_ret
      exact ⟨_, rfl, D⟩

end Go.Proofs.Ytglliiijeadhcaa
