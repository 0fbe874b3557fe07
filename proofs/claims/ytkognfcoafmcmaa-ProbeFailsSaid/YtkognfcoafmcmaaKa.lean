/- The contracts of the package probe: what New, Start, Ack, Nack and Tick answer, and that they change nothing that was there; no conditions but those that each theorem names. -/
import Derived.Test.YtkognfcoafmcmaaProg
import Derived.WalkKit
import Derived.WalkSpells
import Derived.WalkLawsBesides
import Derived.KernelRfl
import Derived.BigQuiet
import Derived.BigRegion
import Derived.RegionTactic
import Derived.Deep.QuietTactic
import Derived.Lib.Hide
import Derived.ScopeJumps
import Derived.Laws.Rows
namespace Go.Proofs.Ytkognfcoafmcmaa
open Go.RowKit

abbrev pv (a b c d e f g : Int) : Value := .agg #[.int .i64 a, .int .i64 b, .int .i64 c, .int .u32 d, .int .u64 e, .int .u64 f, .int .u64 g]
abbrev pc (a b c d e f g : Int) : Array Value := #[.int .i64 a, .int .i64 b, .int .i64 c, .int .u32 d, .int .u64 e, .int .u64 f, .int .u64 g]

theorem ne_b {x y : Int} (h : x ≠ y) : (x == y) = false := by simpa using h
theorem ne_t {x y : Int} (h : x ≠ y) : (x != y) = true := by simpa using h
theorem eq_n {x y : Int} (h : x = y) : (x != y) = false := by simp [h]

/-- A block that is known whole. -/
structure Blk (w : World) (g : Nat) (t : TypeId) (cs : Array Value) : Prop where
  out : w.heap[g]? = some (.cells cs t (0, 0))
section
variable {w w' : World} {g : Nat} {t : TypeId} {cs : Array Value} {o : Obj}
theorem Blk.lt (h : Blk w g t cs) : g < w.heap.size := by
  rcases Nat.lt_or_ge g w.heap.size with hlt | hge
  · exact hlt
  · have := h.out; rw [Array.getElem?_eq_none hge] at this; cases this
theorem Blk.cell (h : Blk w g t cs) (i : Nat) : w.cell? ⟨g, i, none⟩ = cs[i]? := cell_of_row w g i cs t (0, 0) h.out
theorem Blk.frozen (h : Blk w g t cs) (i : Nat) : w.frozen? ⟨g, i, none⟩ = false := by
  simp [World.frozen?, h.out]
theorem Blk.new (w : World) (t : TypeId) (cs : Array Value) : Blk (w.alloc (.cells cs t)) w.heap.size t cs := ⟨heap_alloc_new w _⟩
theorem Blk.drew (h : Blk w g t cs) : Blk w.drew g t cs := ⟨h.out⟩
theorem Blk.alloc (h : Blk w g t cs) (o : Obj) : Blk (w.alloc o) g t cs := ⟨(Below.heap_alloc w o g h.lt).trans h.out⟩
theorem Blk.below {B : Nat} (h : Blk w g t cs) (hb : Below B w w') (hg : g < B) : Blk w' g t cs := ⟨(hb.block g hg).trans h.out⟩
theorem Blk.keep (h : Blk w g t cs) (hb : Below w.heap.size w w') : Blk w' g t cs := h.below hb h.lt
theorem Blk.set_ (h : Blk w g t cs) (i : Nat) (u : Value) : Blk (w.setCell ⟨g, i, none⟩ u) g t (cs.setIfInBounds i u) := by
  have := h.out
  exact ⟨by simp [World.setCell, Array.getElem?_modify, this]⟩
theorem Blk.far (h : Blk w g t cs) {p : Addr} (hp : g ≠ p.block) (u : Value) : Blk (w.setCell p u) g t cs := ⟨(Below.heap_setCell w p u g hp).trans h.out⟩
theorem Blk.put (h : Blk w g t cs) (i : Nat) (u : Value) {cs' : Array Value} (e : cs.setIfInBounds i u = cs') : Blk (w.setCell ⟨g, i, none⟩ u) g t cs' := e ▸ h.set_ i u
theorem Blk.put7 {a b c d k f m a' b' c' d' k' f' m' : Value} (h : Blk w g t #[a, b, c, d, k, f, m]) :
    Blk (((((((w.setCell ⟨g, 0, none⟩ a').setCell ⟨g, 1, none⟩ b').setCell ⟨g, 2, none⟩ c').setCell ⟨g, 3, none⟩ d').setCell ⟨g, 4, none⟩ k').setCell ⟨g, 5, none⟩ f').setCell ⟨g, 6, none⟩ m') g t #[a', b', c', d', k', f', m'] :=
  by simpa using ((((((h.set_ 0 a').set_ 1 b').set_ 2 c').set_ 3 d').set_ 4 k').set_ 5 f').set_ 6 m'
theorem Blk.far7 {p : Nat} {a' b' c' d' k' f' m' : Value} (h : Blk w g t cs) (hp : g ≠ p) :
    Blk (((((((w.setCell ⟨p, 0, none⟩ a').setCell ⟨p, 1, none⟩ b').setCell ⟨p, 2, none⟩ c').setCell ⟨p, 3, none⟩ d').setCell ⟨p, 4, none⟩ k').setCell ⟨p, 5, none⟩ f').setCell ⟨p, 6, none⟩ m') g t cs :=
  ((((((h.far hp _).far hp _).far hp _).far hp _).far hp _).far hp _).far hp _
theorem below7 {W w : World} {B g : Nat} {a' b' c' d' k' f' m' : Value} (h : Below B W w) (hg : B ≤ g) :
    Below B W (((((((w.setCell ⟨g, 0, none⟩ a').setCell ⟨g, 1, none⟩ b').setCell ⟨g, 2, none⟩ c').setCell ⟨g, 3, none⟩ d').setCell ⟨g, 4, none⟩ k').setCell ⟨g, 5, none⟩ f').setCell ⟨g, 6, none⟩ m') :=
  ((((((h.setCell hg _).setCell hg _).setCell hg _).setCell hg _).setCell hg _).setCell hg _).setCell hg _
/-- all that the walk wants of a block -/
theorem Blk.all (h : Blk w g t cs) : (∀ i, w.cell? ⟨g, i, none⟩ = cs[i]?) ∧ (∀ i, w.frozen? ⟨g, i, none⟩ = false) ∧ g < w.heap.size := ⟨h.cell, h.frozen, h.lt⟩
end

/-- As Q; by a goto to a label of c: what stands behind that label is gone through without another goto. -/
def Exit.fwd (P : Program) (c : Code) (Q : Exit → Act → World → Prop) : Exit → Act → World → Prop
  | .goto l, a, w => ∃ rest, findLabel c l = some rest ∧ rest.wp P (Exit.noGoto Q) a w
  | e, a, w => Q e a w
theorem Exit.fwd_ret (P : Program) (c : Code) (Q : Exit → Act → World → Prop) : Exit.fwd P c Q .ret = Q .ret := rfl
theorem wp_scope_fwd {P : Program} {a : Act} {w : World} {Q : Exit → Act → World → Prop} {c : Code} (h : c.wp P (Exit.fwd P c Q) a w) : (Code.scope c).wp P Q a w := by
  intro b k cs
  obtain ⟨e, a₁, w₁, hq, harr⟩ := h b (.inScope c :: k) cs
  cases e with
  | normal => exact ⟨.normal, a₁, w₁, hq, .head step_scope (Steps.trans harr (.one step_inScope))⟩
  | exit id => exact ⟨.exit id, a₁, w₁, hq, fun k' hk => .head step_scope (harr k' (by simp [exitTo, hk]))⟩
  | goto l =>
    obtain ⟨rest, hf, hr⟩ := hq
    have hg : gotoIn l (.inScope c :: k) = some (.code rest :: .inScope c :: k) := by simp [gotoIn, hf]
    have h0 := harr _ hg
    obtain ⟨e₂, a₂, w₂, hq₂, harr₂⟩ := hr b (.inScope c :: k) cs
    cases e₂ with
    | normal => exact ⟨.normal, a₂, w₂, hq₂, .head step_scope (Steps.trans h0 (Steps.trans harr₂ (.one step_inScope)))⟩
    | exit id => exact ⟨.exit id, a₂, w₂, hq₂, fun k' hk => .head step_scope (Steps.trans h0 (harr₂ k' (by simp [exitTo, hk])))⟩
    | goto l => exact hq₂.elim
    | ret => exact ⟨_, a₂, w₂, hq₂, .of_steps (.head step_scope h0) harr₂⟩
    | panic ch => exact ⟨_, a₂, w₂, hq₂, .of_steps (.head step_scope h0) harr₂⟩
    | outgrown => exact ⟨_, a₂, w₂, hq₂, .of_steps (.head step_scope h0) harr₂⟩
  | ret => exact ⟨_, a₁, w₁, hq, .of_steps (.one step_scope) harr⟩
  | panic ch => exact ⟨_, a₁, w₁, hq, .of_steps (.one step_scope) harr⟩
  | outgrown => exact ⟨_, a₁, w₁, hq, .of_steps (.one step_scope) harr⟩

theorem ret_ct {P : Program} {fn : Func} {p u : Tmp} {ty : TypeId} {R : Ending → World → Prop} {a : Act} {w : World} {g : Nat} {t : TypeId} {cs : Array Value} {d : TypeDesc} (h : fn.results = #[.cell p ty, .tmp u])
    (hp : a.tmps.getD p undef = .pointer (some ⟨g, 0, none⟩)) (hg : Blk w g t cs)
    (hu : P.underlying ty = some d) (hd : (match d with | .struct _ | .array _ _ => true | _ => false) = true) (hi : (P.info? ty).map (·.size) = some cs.size) (hde : a.defers = [])
    (hR : R (.returned (.tuple #[.agg cs, a.tmps.getD u undef])) w) : bodyPost P fn R .ret a w := by
  have hp' : a.tmps[p]?.getD undef = .pointer (some ⟨g, 0, none⟩) := by simpa using hp
  exact bodyPost_ret (v := .tuple #[.agg cs, a.tmps.getD u undef]) (by simp [results, h, hp', asAddr, run_loadVar_row w g t ty cs (0, 0) d hg.out hu hd hi]) hde hR

set_option maxHeartbeats 400000 in
theorem idle_any (a b c d e f g : Int) (w : World) :
    Calls Try.prog 13 #[pv a b c d e f g] w fun e w' => e = .returned (pv 0 0 0 0 0 f g) ∧ Below w.heap.size w w' := by
  go_enter Try.func13, Try.ntmps13
  go_wp2
  exact bodyPost_ret (v := pv 0 0 0 0 0 f g) (by simp [results, Try.results13, go_sem]) rfl ⟨rfl, ((Below.refl _ _).alloc (Nat.le_refl _) _).alloc (by simp) _⟩


set_option maxHeartbeats 1000000 in
theorem new_yes (x y : Int) (h1 : 1 ≤ x) (h2 : x ≤ 1000000) (h3 : 1 ≤ y) (h4 : y ≤ 1000000) (w : World) :
    Calls Try.prog 8 #[.int .u64 x, .int .u64 y] w fun e w' => e = .returned (.tuple #[pv 0 0 0 0 0 x y, .int .i64 0]) ∧ Below w.heap.size w w' := by
  have e1 := ne_b (show x ≠ 0 by omega)
  have e2 := ne_b (show y ≠ 0 by omega)
  have hbw := Below.refl w.heap.size w
  by_cases h : x < y
  all_goals
    by_cases h' : y < x
    all_goals
      go_enter Try.func8, Try.ntmps8
      go_wp2
      all_goals exact bodyPost_ret (v := .tuple #[pv 0 0 0 0 0 x y, .int .i64 0]) (by simp [results, Try.results8, go_sem]) rfl ⟨rfl, (by repeat (first | with_reducible exact hbw | (rw [hg0]; with_reducible exact hbw) | with_reducible refine Below.drew ?_ | with_reducible refine below7 ?_ (by omega) | with_reducible refine Below.alloc ?_ (by first | exact Nat.le_refl _ | (simp; done) | (simp; omega)) _))⟩

set_option maxHeartbeats 1000000 in
theorem new_zero (x y : Int) (h1 : 0 ≤ x) (h3 : 0 ≤ y) (hz : x = 0 ∨ y = 0) (w : World) :
    Calls Try.prog 8 #[.int .u64 x, .int .u64 y] w fun e w' => e = .returned (.tuple #[pv 0 0 0 0 0 0 0, .int .i64 1]) ∧ Below w.heap.size w w' := by
  have hbw := Below.refl w.heap.size w
  rcases hz with rfl | rfl
  · by_cases h : 0 < y
    all_goals
      go_enter Try.func8, Try.ntmps8
      go_wp2
      all_goals exact bodyPost_ret (v := .tuple #[pv 0 0 0 0 0 0 0, .int .i64 1]) (by simp [results, Try.results8, go_sem]) rfl ⟨rfl, (by repeat (first | with_reducible exact hbw | (rw [hg0]; with_reducible exact hbw) | with_reducible refine Below.drew ?_ | with_reducible refine below7 ?_ (by omega) | with_reducible refine Below.alloc ?_ (by first | exact Nat.le_refl _ | (simp; done) | (simp; omega)) _))⟩
  · by_cases h : 0 < x
    · have h' : ¬ x < 0 := by omega
      go_enter Try.func8, Try.ntmps8
      go_wp2
      all_goals exact bodyPost_ret (v := .tuple #[pv 0 0 0 0 0 0 0, .int .i64 1]) (by simp [results, Try.results8, go_sem]) rfl ⟨rfl, (by repeat (first | with_reducible exact hbw | (rw [hg0]; with_reducible exact hbw) | with_reducible refine Below.drew ?_ | with_reducible refine below7 ?_ (by omega) | with_reducible refine Below.alloc ?_ (by first | exact Nat.le_refl _ | (simp; done) | (simp; omega)) _))⟩
    · obtain rfl : x = 0 := by omega
      go_enter Try.func8, Try.ntmps8
      go_wp2
      all_goals exact bodyPost_ret (v := .tuple #[pv 0 0 0 0 0 0 0, .int .i64 1]) (by simp [results, Try.results8, go_sem]) rfl ⟨rfl, (by repeat (first | with_reducible exact hbw | (rw [hg0]; with_reducible exact hbw) | with_reducible refine Below.drew ?_ | with_reducible refine below7 ?_ (by omega) | with_reducible refine Below.alloc ?_ (by first | exact Nat.le_refl _ | (simp; done) | (simp; omega)) _))⟩

set_option maxHeartbeats 1000000 in
theorem new_big (x y : Int) (h1 : 1 ≤ x) (h3 : 1 ≤ y) (hz : 1000000 < x ∨ 1000000 < y) (w : World) :
    Calls Try.prog 8 #[.int .u64 x, .int .u64 y] w fun e w' => e = .returned (.tuple #[pv 0 0 0 0 0 0 0, .int .i64 1]) ∧ Below w.heap.size w w' := by
  have hbw := Below.refl w.heap.size w
  have e1 := ne_b (show x ≠ 0 by omega)
  have e2 := ne_b (show y ≠ 0 by omega)
  by_cases h : x < y
  all_goals
    by_cases h' : y < x
    all_goals
      first
        | (have h5 : 1000000 < y := by omega
           go_enter Try.func8, Try.ntmps8
           go_wp2
           all_goals exact bodyPost_ret (v := .tuple #[pv 0 0 0 0 0 0 0, .int .i64 1]) (by simp [results, Try.results8, go_sem]) rfl ⟨rfl, (by repeat (first | with_reducible exact hbw | (rw [hg0]; with_reducible exact hbw) | with_reducible refine Below.drew ?_ | with_reducible refine below7 ?_ (by omega) | with_reducible refine Below.alloc ?_ (by first | exact Nat.le_refl _ | (simp; done) | (simp; omega)) _))⟩)
        | (have h5 : 1000000 < x := by omega
           go_enter Try.func8, Try.ntmps8
           go_wp2
           all_goals exact bodyPost_ret (v := .tuple #[pv 0 0 0 0 0 0 0, .int .i64 1]) (by simp [results, Try.results8, go_sem]) rfl ⟨rfl, (by repeat (first | with_reducible exact hbw | (rw [hg0]; with_reducible exact hbw) | with_reducible refine Below.drew ?_ | with_reducible refine below7 ?_ (by omega) | with_reducible refine Below.alloc ?_ (by first | exact Nat.le_refl _ | (simp; done) | (simp; omega)) _))⟩)
        | omega

set_option maxHeartbeats 1000000 in
theorem start_ok (b c d u f g t q now : Int) (h1 : 1 ≤ t) (h2 : t ≤ 32) (h3 : 0 ≤ now) (h4 : now ≤ 4611686018427387904) (h5 : 0 ≤ f) (h6 : f ≤ 1000000) (w : World) :
    Calls Try.prog 9 #[pv 0 b c d u f g, .int .i64 t, .int .u32 q, .int .u64 now] w fun e w' => e = .returned (.tuple #[pv 1 t 0 q (now + f) f g, .int .i64 0]) ∧ Below w.heap.size w w' := by
    go_enter Try.func9, Try.ntmps9
    go_wp2_with fail
    refine (idle_any _ _ _ _ _ _ _ _).mono ?_
    rintro e1 w1 ⟨rfl, hb⟩
    have B1 := (Blk.new (w.alloc _) _ _).keep hb
    obtain ⟨c0, f0, z0⟩ := (((Blk.new w _ _).alloc _).keep hb).all
    simp only [World.size_alloc] at B1
    obtain ⟨c1, f1, z1⟩ := B1.all
    have hbw := (((Below.refl w.heap.size w).alloc (Nat.le_refl _) _).alloc (by simp) _).trans (hb.mono (by simp; omega))
    clear hb
    generalize hg0 : w.heap.size = g0 at *
    go_wp2
    go_region
    go_wp2
    exact ret_ct rfl rfl ((B1.put7.alloc _).drew) Try.underlying26 rfl (by kernel_rfl) rfl ⟨rfl, (by repeat (first | with_reducible exact hbw | (rw [hg0]; with_reducible exact hbw) | with_reducible refine Below.drew ?_ | with_reducible refine below7 ?_ (by omega) | with_reducible refine Below.alloc ?_ (by first | exact Nat.le_refl _ | (simp; done) | (simp; omega)) _))⟩

set_option maxHeartbeats 1000000 in
theorem start_full (a b c d u f g t q now : Int) (h0 : a ≠ 0) (h1 : 1 ≤ t) (h2 : t ≤ 32) (h4 : now ≤ 4611686018427387904) (w : World) :
    Calls Try.prog 9 #[pv a b c d u f g, .int .i64 t, .int .u32 q, .int .u64 now] w fun e w' => e = .returned (.tuple #[pv a b c d u f g, .int .i64 4]) ∧ Below w.heap.size w w' := by
  have e1 := ne_t h0
  have hbw := Below.refl w.heap.size w
  go_enter Try.func9, Try.ntmps9
  go_wp2
  exact bodyPost_ret (v := .tuple #[pv a b c d u f g, .int .i64 4]) (by simp [results, Try.results9, go_sem]) rfl ⟨rfl, (by repeat (first | with_reducible exact hbw | (rw [hg0]; with_reducible exact hbw) | with_reducible refine Below.drew ?_ | with_reducible refine below7 ?_ (by omega) | with_reducible refine Below.alloc ?_ (by first | exact Nat.le_refl _ | (simp; done) | (simp; omega)) _))⟩

set_option maxHeartbeats 1000000 in
theorem start_arg (a b c d u f g t q now : Int) (h : t < 1 ∨ 32 < t ∨ 4611686018427387904 < now) (w : World) :
    Calls Try.prog 9 #[pv a b c d u f g, .int .i64 t, .int .u32 q, .int .u64 now] w fun e w' => e = .returned (.tuple #[pv a b c d u f g, .int .i64 1]) ∧ Below w.heap.size w w' := by
  have hbw := Below.refl w.heap.size w
  by_cases h1 : t < 1
  · go_enter Try.func9, Try.ntmps9
    go_wp2
    exact bodyPost_ret (v := .tuple #[pv a b c d u f g, .int .i64 1]) (by simp [results, Try.results9, go_sem]) rfl ⟨rfl, (by repeat (first | with_reducible exact hbw | (rw [hg0]; with_reducible exact hbw) | with_reducible refine Below.drew ?_ | with_reducible refine below7 ?_ (by omega) | with_reducible refine Below.alloc ?_ (by first | exact Nat.le_refl _ | (simp; done) | (simp; omega)) _))⟩
  · by_cases h2 : 32 < t
    · go_enter Try.func9, Try.ntmps9
      go_wp2
      exact bodyPost_ret (v := .tuple #[pv a b c d u f g, .int .i64 1]) (by simp [results, Try.results9, go_sem]) rfl ⟨rfl, (by repeat (first | with_reducible exact hbw | (rw [hg0]; with_reducible exact hbw) | with_reducible refine Below.drew ?_ | with_reducible refine below7 ?_ (by omega) | with_reducible refine Below.alloc ?_ (by first | exact Nat.le_refl _ | (simp; done) | (simp; omega)) _))⟩
    · have h3 : 4611686018427387904 < now := by omega
      go_enter Try.func9, Try.ntmps9
      go_wp2
      exact bodyPost_ret (v := .tuple #[pv a b c d u f g, .int .i64 1]) (by simp [results, Try.results9, go_sem]) rfl ⟨rfl, (by repeat (first | with_reducible exact hbw | (rw [hg0]; with_reducible exact hbw) | with_reducible refine Below.drew ?_ | with_reducible refine below7 ?_ (by omega) | with_reducible refine Below.alloc ?_ (by first | exact Nat.le_refl _ | (simp; done) | (simp; omega)) _))⟩

set_option maxHeartbeats 1000000 in
theorem ack_yes (a b c d u f g : Int) (h : a ≠ 0) (w : World) :
    Calls Try.prog 10 #[pv a b c d u f g, .int .u32 d] w fun e w' => e = .returned (.tuple #[pv 0 0 0 0 0 f g, .bool true]) ∧ Below w.heap.size w w' := by
    have e1 := ne_b h
    go_enter Try.func10, Try.ntmps10
    go_wp2_with fail
    refine (idle_any _ _ _ _ _ _ _ _).mono ?_
    rintro e1 w1 ⟨rfl, hb⟩
    have B1 := (Blk.new (w.alloc _) _ _).keep hb
    obtain ⟨c0, f0, z0⟩ := (((Blk.new w _ _).alloc _).keep hb).all
    simp only [World.size_alloc] at B1
    obtain ⟨c1, f1, z1⟩ := B1.all
    have hbw := (((Below.refl w.heap.size w).alloc (Nat.le_refl _) _).alloc (by simp) _).trans (hb.mono (by simp; omega))
    clear hb
    generalize hg0 : w.heap.size = g0 at *
    go_wp2
    exact ret_ct rfl rfl B1.put7 Try.underlying26 rfl (by kernel_rfl) rfl ⟨rfl, (by repeat (first | with_reducible exact hbw | (rw [hg0]; with_reducible exact hbw) | with_reducible refine Below.drew ?_ | with_reducible refine below7 ?_ (by omega) | with_reducible refine Below.alloc ?_ (by first | exact Nat.le_refl _ | (simp; done) | (simp; omega)) _))⟩

set_option maxHeartbeats 1000000 in
theorem ack_no (a b c d u f g q : Int) (h : a = 0 ∨ d ≠ q) (w : World) :
    Calls Try.prog 10 #[pv a b c d u f g, .int .u32 q] w fun e w' => e = .returned (.tuple #[pv a b c d u f g, .bool false]) ∧ Below w.heap.size w w' := by
  by_cases h0 : a = 0
  · subst h0
    have hbw := Below.refl w.heap.size w
    go_enter Try.func10, Try.ntmps10
    go_wp2
    exact bodyPost_ret (v := .tuple #[pv 0 b c d u f g, .bool false]) (by simp [results, Try.results10, go_sem]) rfl ⟨rfl, (by repeat (first | with_reducible exact hbw | (rw [hg0]; with_reducible exact hbw) | with_reducible refine Below.drew ?_ | with_reducible refine below7 ?_ (by omega) | with_reducible refine Below.alloc ?_ (by first | exact Nat.le_refl _ | (simp; done) | (simp; omega)) _))⟩
  · have e1 := ne_b h0
    have e2 := ne_t (show d ≠ q by omega)
    have hbw := Below.refl w.heap.size w
    go_enter Try.func10, Try.ntmps10
    go_wp2
    exact bodyPost_ret (v := .tuple #[pv a b c d u f g, .bool false]) (by simp [results, Try.results10, go_sem]) rfl ⟨rfl, (by repeat (first | with_reducible exact hbw | (rw [hg0]; with_reducible exact hbw) | with_reducible refine Below.drew ?_ | with_reducible refine below7 ?_ (by omega) | with_reducible refine Below.alloc ?_ (by first | exact Nat.le_refl _ | (simp; done) | (simp; omega)) _))⟩

set_option maxHeartbeats 1000000 in
theorem nack_no (a b c d u f g q : Int) (h : a ≠ 2 ∨ d ≠ q) (w : World) :
    Calls Try.prog 12 #[pv a b c d u f g, .int .u32 q] w fun e w' => e = .returned (.tuple #[pv a b c d u f g, .bool false]) ∧ Below w.heap.size w w' := by
  by_cases h0 : a = 2
  · subst h0
    have e2 := ne_t (show d ≠ q by omega)
    have hbw := Below.refl w.heap.size w
    go_enter Try.func12, Try.ntmps12
    go_wp2
    exact bodyPost_ret (v := .tuple #[pv 2 b c d u f g, .bool false]) (by simp [results, Try.results12, go_sem]) rfl ⟨rfl, (by repeat (first | with_reducible exact hbw | (rw [hg0]; with_reducible exact hbw) | with_reducible refine Below.drew ?_ | with_reducible refine below7 ?_ (by omega) | with_reducible refine Below.alloc ?_ (by first | exact Nat.le_refl _ | (simp; done) | (simp; omega)) _))⟩
  · have e1 := ne_t h0
    have hbw := Below.refl w.heap.size w
    go_enter Try.func12, Try.ntmps12
    go_wp2
    exact bodyPost_ret (v := .tuple #[pv a b c d u f g, .bool false]) (by simp [results, Try.results12, go_sem]) rfl ⟨rfl, (by repeat (first | with_reducible exact hbw | (rw [hg0]; with_reducible exact hbw) | with_reducible refine Below.drew ?_ | with_reducible refine below7 ?_ (by omega) | with_reducible refine Below.alloc ?_ (by first | exact Nat.le_refl _ | (simp; done) | (simp; omega)) _))⟩

set_option maxHeartbeats 1000000 in
theorem nack_yes (b c d u f g : Int) (h0 : 0 ≤ c) (w : World) :
    Calls Try.prog 12 #[pv 2 b c d u f g, .int .u32 d] w fun e w' => e = .returned (.tuple #[pv 2 b (if c < 31 then c + 1 else 32) d u f g, .bool true]) ∧ Below w.heap.size w w' := by
  have hbw := Below.refl w.heap.size w
  by_cases h1 : c < 31
  · rw [if_pos h1]
    have h2 : ¬ 31 < c := by omega
    go_enter Try.func12, Try.ntmps12
    go_wp2
    all_goals exact bodyPost_ret (v := .tuple #[pv 2 b (c + 1) d u f g, .bool true]) (by simp [results, Try.results12, go_sem]) rfl ⟨rfl, (by repeat (first | with_reducible exact hbw | (rw [hg0]; with_reducible exact hbw) | with_reducible refine Below.drew ?_ | with_reducible refine below7 ?_ (by omega) | with_reducible refine Below.alloc ?_ (by first | exact Nat.le_refl _ | (simp; done) | (simp; omega)) _))⟩
  · rw [if_neg h1]
    by_cases h2 : c = 31
    · subst h2
      go_enter Try.func12, Try.ntmps12
      go_wp2
      all_goals exact bodyPost_ret (v := .tuple #[pv 2 b 32 d u f g, .bool true]) (by simp [results, Try.results12, go_sem]) rfl ⟨rfl, (by repeat (first | with_reducible exact hbw | (rw [hg0]; with_reducible exact hbw) | with_reducible refine Below.drew ?_ | with_reducible refine below7 ?_ (by omega) | with_reducible refine Below.alloc ?_ (by first | exact Nat.le_refl _ | (simp; done) | (simp; omega)) _))⟩
    · have h3 : 31 < c := by omega
      go_enter Try.func12, Try.ntmps12
      go_wp2
      all_goals exact bodyPost_ret (v := .tuple #[pv 2 b 32 d u f g, .bool true]) (by simp [results, Try.results12, go_sem]) rfl ⟨rfl, (by repeat (first | with_reducible exact hbw | (rw [hg0]; with_reducible exact hbw) | with_reducible refine Below.drew ?_ | with_reducible refine below7 ?_ (by omega) | with_reducible refine Below.alloc ?_ (by first | exact Nat.le_refl _ | (simp; done) | (simp; omega)) _))⟩

set_option maxHeartbeats 1000000 in
theorem tick_no (a b c d u f g n : Int) (h : a = 0 ∨ n < u) (w : World) :
    Calls Try.prog 11 #[pv a b c d u f g, .int .u64 n] w fun e w' => e = .returned (.tuple #[pv a b c d u f g, .int .i64 0]) ∧ Below w.heap.size w w' := by
  by_cases h0 : a = 0
  · subst h0
    have hbw := Below.refl w.heap.size w
    go_enter Try.func11, Try.ntmps11
    go_wp2
    refine wp_scope_fwd ?_
    go_wp2
    go_step3
    refine ⟨_, rfl, ?_⟩
    go_wp2
    rw [Exit.noGoto_ret]
    exact bodyPost_ret (v := .tuple #[pv 0 b c d u f g, .int .i64 0]) (by simp [results, Try.results11, go_sem]) rfl ⟨rfl, (by repeat (first | with_reducible exact hbw | (rw [hg0]; with_reducible exact hbw) | with_reducible refine Below.drew ?_ | with_reducible refine below7 ?_ (by omega) | with_reducible refine Below.alloc ?_ (by first | exact Nat.le_refl _ | (simp; done) | (simp; omega)) _))⟩
  · have e1 := ne_b h0
    have e2 : n < u := by omega
    have hbw := Below.refl w.heap.size w
    go_enter Try.func11, Try.ntmps11
    go_wp2
    refine wp_scope_fwd ?_
    go_wp2
    go_step3
    refine ⟨_, rfl, ?_⟩
    go_wp2
    rw [Exit.noGoto_ret]
    exact bodyPost_ret (v := .tuple #[pv a b c d u f g, .int .i64 0]) (by simp [results, Try.results11, go_sem]) rfl ⟨rfl, (by repeat (first | with_reducible exact hbw | (rw [hg0]; with_reducible exact hbw) | with_reducible refine Below.drew ?_ | with_reducible refine below7 ?_ (by omega) | with_reducible refine Below.alloc ?_ (by first | exact Nat.le_refl _ | (simp; done) | (simp; omega)) _))⟩

set_option maxHeartbeats 1000000 in
theorem tick_ask (b c d u f g n : Int) (h : u ≤ n) (h1 : 0 ≤ u) (h2 : u ≤ 4611686018428387904) (h3 : 0 ≤ g) (h4 : g ≤ 1000000) (w : World) :
    Calls Try.prog 11 #[pv 1 b c d u f g, .int .u64 n] w fun e w' => e = .returned (.tuple #[pv 2 b c d (u + g) f g, .int .i64 1]) ∧ Below w.heap.size w w' := by
    have hbw := Below.refl w.heap.size w
    go_enter Try.func11, Try.ntmps11
    go_wp2
    refine wp_scope_fwd ?_
    go_wp2
    go_step3
    refine ⟨_, rfl, ?_⟩
    go_wp2
    rw [Exit.noGoto_ret]
    exact bodyPost_ret (v := .tuple #[pv 2 b c d (u + g) f g, .int .i64 1]) (by simp [results, Try.results11, go_sem]) rfl ⟨rfl, (by repeat (first | with_reducible exact hbw | (rw [hg0]; with_reducible exact hbw) | with_reducible refine Below.drew ?_ | with_reducible refine below7 ?_ (by omega) | with_reducible refine Below.alloc ?_ (by first | exact Nat.le_refl _ | (simp; done) | (simp; omega)) _))⟩

set_option maxHeartbeats 1000000 in
theorem tick_fail (b c d u f g n : Int) (h : u ≤ n) (w : World) :
    Calls Try.prog 11 #[pv 2 b c d u f g, .int .u64 n] w fun e w' => e = .returned (.tuple #[pv 0 0 0 0 0 f g, .int .i64 2]) ∧ Below w.heap.size w w' := by
    go_enter Try.func11, Try.ntmps11
    go_wp2
    refine wp_scope_fwd ?_
    go_wp2_with fail
    refine (idle_any _ _ _ _ _ _ _ _).mono ?_
    rintro e1 w1 ⟨rfl, hb⟩
    have B1 := (Blk.new (w.alloc _) _ _).keep hb
    obtain ⟨c0, f0, z0⟩ := (((Blk.new w _ _).alloc _).keep hb).all
    simp only [World.size_alloc] at B1
    obtain ⟨c1, f1, z1⟩ := B1.all
    have hbw := (((Below.refl w.heap.size w).alloc (Nat.le_refl _) _).alloc (by simp) _).trans (hb.mono (by simp; omega))
    clear hb
    generalize hg0 : w.heap.size = g0 at *
    go_wp2
    rw [Exit.fwd_ret]
    exact ret_ct rfl rfl B1.put7 Try.underlying26 rfl (by kernel_rfl) rfl ⟨rfl, (by repeat (first | with_reducible exact hbw | (rw [hg0]; with_reducible exact hbw) | with_reducible refine Below.drew ?_ | with_reducible refine below7 ?_ (by omega) | with_reducible refine Below.alloc ?_ (by first | exact Nat.le_refl _ | (simp; done) | (simp; omega)) _))⟩

end Go.Proofs.Ytkognfcoafmcmaa
