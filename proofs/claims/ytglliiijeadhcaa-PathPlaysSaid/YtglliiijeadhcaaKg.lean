/- Rows of steps and of paths as the walk of PathPlays reads them; no conditions but those that each theorem names. -/
import Derived.Test.YtglliiijeadhcaaKf8
namespace Go.Proofs.Ytglliiijeadhcaa
open Go.RowKit
set_option linter.unusedVariables false
variable {w w' : World} {B h : Nat} {tr ba ke ho : Int} {F : Nat → Pt}

theorem sends_get' : ∀ (l : List (Int × Int)) (j : Nat) (h : j < l.length), (sends l)[j * 2]? = some (.int .i64 (l[j]).1) ∧ (sends l)[j * 2 + 1]? = some (.int .i64 (l[j]).2)
  | [], j, h => by simp at h
  | (p, q) :: l, 0, h => ⟨rfl, rfl⟩
  | (p, q) :: l, j + 1, h => by
    have := sends_get' l j (by simpa using h)
    rw [show (j + 1) * 2 = j * 2 + 1 + 1 by omega]
    simp only [sends, List.getElem?_cons_succ, List.getElem_cons_succ]
    exact this
/-- a row of steps is read at j -/
def StepAt (w : World) (A : Option Addr) (j : Nat) (x y : Int) : Prop :=
  ∃ r : Nat, A = some ⟨r, 0, none⟩ ∧ w.cell? ⟨r, j * 2, none⟩ = some (.int .i64 x) ∧ w.cell? ⟨r, j * 2 + 1, none⟩ = some (.int .i64 y) ∧ (∀ i, w.frozen? ⟨r, i, none⟩ = false) ∧ r < w.heap.size
theorem stepAt {N : Nat} {e : TypeId} {A : Option Addr} {c n : Nat} {l : List (Int × Int)} (h : w.ownsRow N e 2 (.slice A n c) l.length (sends l)) {j : Nat} (hj : j < l.length) : StepAt w A j (l[j]).1 (l[j]).2 := by
  rcases h.2 with ⟨_, h2⟩ | ⟨g', cap, cur, hv, hb, hh, h1, h2, h3, ht⟩
  · omega
  · have B1 : Blk w g' e cur := ⟨hh⟩
    obtain ⟨a, b⟩ := sends_get' l j hj
    rw [← ht, List.getElem?_take_of_lt (by omega)] at a b
    exact ⟨g', by injection hv, (B1.cell _).trans (by simpa using a), (B1.cell _).trans (by simpa using b), B1.frozen, B1.lt⟩
/-- a row of paths is read at j -/
def PathAt (w : World) (A : Option Addr) (j : Nat) (y : Pt) : Prop :=
  ∃ r : Nat, A = some ⟨r, 0, none⟩ ∧ (w.cell? ⟨r, j * 7, none⟩ = some (.int .i64 y.a) ∧ w.cell? ⟨r, j * 7 + 1, none⟩ = some (.int .i64 y.b) ∧ w.cell? ⟨r, j * 7 + 2, none⟩ = some (.int .i64 y.c) ∧ w.cell? ⟨r, j * 7 + 3, none⟩ = some (.int .u32 y.d) ∧ w.cell? ⟨r, j * 7 + 4, none⟩ = some (.int .u16 y.e) ∧ w.cell? ⟨r, j * 7 + 5, none⟩ = some (.int .u64 y.f) ∧ w.cell? ⟨r, j * 7 + 6, none⟩ = some (.int .u64 y.k)) ∧ (∀ i, w.frozen? ⟨r, i, none⟩ = false) ∧ r < w.heap.size
def RowP (w : World) (A : Option Addr) (l : List Pt) : Prop := ∀ j y, l[j]? = some y → PathAt w A j y
theorem PathAt.keep {A : Option Addr} {j : Nat} {y : Pt} (P : PathAt w A j y) (hb : Below w.heap.size w w') : PathAt w' A j y := by
  obtain ⟨r, h1, ⟨a0, a1, a2, a3, a4, a5, a6⟩, f, z⟩ := P
  have hc := fun i => hb.cell (p := ⟨r, i, none⟩) z
  exact ⟨r, h1, ⟨(hc _).trans a0, (hc _).trans a1, (hc _).trans a2, (hc _).trans a3, (hc _).trans a4, (hc _).trans a5, (hc _).trans a6⟩, fun i => (hb.frozen (p := ⟨r, i, none⟩) z).trans (f i), Nat.lt_of_lt_of_le z hb.size⟩
theorem RowP.keep {A : Option Addr} {l : List Pt} (P : RowP w A l) (hb : Below w.heap.size w w') : RowP w' A l := fun j y hy => (P j y hy).keep hb
theorem rowP {N : Nat} {A : Option Addr} {c n : Nat} {l : List Pt} (h : w.ownsRow N 61 7 (.slice A n c) l.length (pts l)) : RowP w A l := by
  intro j y hy
  obtain ⟨hj, rfl⟩ := List.getElem?_eq_some_iff.1 hy
  rcases h.2 with ⟨_, h2⟩ | ⟨g', cap, cur, hv, hb, hh, h1, h2, h3, ht⟩
  · omega
  · have B1 : Blk w g' 61 cur := ⟨hh⟩
    have hp : ∀ i, i < 7 → cur[j * 7 + i]? = some ((l[j]).cell i) := fun i hi => by
      have := pts_get l j i hj hi
      rw [← ht, List.getElem?_take_of_lt (by omega)] at this
      simpa using this
    exact ⟨g', by injection hv, ⟨(B1.cell _).trans (hp 0 (by omega)), (B1.cell _).trans (hp 1 (by omega)), (B1.cell _).trans (hp 2 (by omega)), (B1.cell _).trans (hp 3 (by omega)), (B1.cell _).trans (hp 4 (by omega)), (B1.cell _).trans (hp 5 (by omega)), (B1.cell _).trans (hp 6 (by omega))⟩, B1.frozen, B1.lt⟩
def AllP (F : Nat → Pt) (w : World) (e : Ending) (w' : World) : Prop :=
  ∃ (A : Option Addr) (c len : Nat), e = .returned (.slice A len c) ∧ Hid ((lst F).length = len) ∧ len ≤ 33 ∧ Below w.heap.size w w' ∧ RowP w' A (lst F)
theorem all_lst {g : Nat} (w : World) (T : Tab w g tr ba ke ho F) : Calls Try.prog 23 #[.pointer (some ⟨g, 0, none⟩)] w (AllP F w) := by
  refine (all_any w T).mono ?_
  rintro e w' ⟨v, rfl, h2, h4⟩
  have hl := allL_len F 33
  unfold AllP
  rw [lst_eq]
  obtain ⟨A, c, rfl⟩ := own_form h2
  exact ⟨A, c, _, rfl, Lib.hid rfl, hl, h4, rowP h2⟩
/-- what stands in the list -/
theorem lst_at_get (W : WF tr F) {j : Nat} (hj : j < (lst F).length) : ∃ (p : Nat) (y : Pt), (lst F)[j]? = some y ∧ F p = y ∧ 1 ≤ p ∧ p ≤ 32 ∧ y.b ≠ 0 ∧ y.a = p := by
  have hm := List.getElem_mem hj
  have he := List.getElem?_eq_getElem hj
  generalize (lst F)[j] = y at hm he
  rw [lst_eq] at hm
  obtain ⟨p, hp, rfl, hb⟩ := allL_mem 33 hm
  have := W.a p hp hb
  exact ⟨p, F p, he, rfl, this.2, by omega, hb, this.1⟩
end Go.Proofs.Ytglliiijeadhcaa
