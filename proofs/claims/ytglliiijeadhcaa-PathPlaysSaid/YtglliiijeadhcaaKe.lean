/- What each deed makes of the paths, in one word for all its cases; the contracts of the package path so told; no conditions but those that each theorem names. -/
import Derived.Test.YtglliiijeadhcaaPplays0
namespace Go.Proofs.Ytglliiijeadhcaa
open Go.RowKit
set_option linter.unusedVariables false

def Bad (p n : Int) : Prop := p < 1 ∨ 32 < p ∨ 4611686018427387904 < n
instance (p n : Int) : Decidable (Bad p n) := by unfold Bad; infer_instance
def wantE (F : Nat → Pt) (p n : Int) : Int := if Bad p n then 1 else if (F p.toNat).b ≠ 0 then 6 else 0
def wantF (F : Nat → Pt) (p n : Int) : Nat → Pt := if Bad p n then F else if (F p.toNat).b ≠ 0 then F else upd F p.toNat ⟨p, 2, 0, 0, 0, n, 0⟩
def openE (p i q n : Int) : Int := if Bad p n then 1 else if noneB i q = true then 1 else 0
def openF (ke ho : Int) (F : Nat → Pt) (p i q n : Int) : Nat → Pt := if Bad p n then F else if noneB i q = true then F else upd F p.toNat ⟨p, 3, 0, i, q, n + ke, n + ho⟩
def Hears (F : Nat → Pt) (p i q n : Int) : Prop := ¬ Bad p n ∧ (F p.toNat).b = 3 ∧ (F p.toNat).d = i ∧ (F p.toNat).e = q
instance (F : Nat → Pt) (p i q n : Int) : Decidable (Hears F p i q n) := by unfold Hears; infer_instance
def heardB (F : Nat → Pt) (p i q n : Int) : Bool := decide (Hears F p i q n)
def heardF (ho : Int) (F : Nat → Pt) (p i q n : Int) : Nat → Pt := if Hears F p i q n then upd F p.toNat { F p.toNat with k := n + ho } else F
def Loses (F : Nat → Pt) (p : Int) : Prop := 1 ≤ p ∧ p ≤ 32 ∧ (F p.toNat).b ≠ 0
instance (F : Nat → Pt) (p : Int) : Decidable (Loses F p) := by unfold Loses; infer_instance
def lostB (F : Nat → Pt) (p : Int) : Bool := decide (Loses F p)
def lostF (F : Nat → Pt) (p : Int) : Nat → Pt := if Loses F p then upd F p.toNat Pt.zero else F
def goF (tr ba ke ho : Int) (F : Nat → Pt) (n : Int) : Nat → Pt := if 4611686018427387904 < n then F else dueF tr ba ke ho n F 33
def goL (tr ba ke ho : Int) (F : Nat → Pt) (n : Int) : List (Int × Int) := if 4611686018427387904 < n then [] else sendL tr ba ke ho n (allL F 33)

section
variable {g : Nat} {tr ba ke ho : Int} {F : Nat → Pt} {w w' : World}
theorem only_below {a : World} (h : Below a.heap.size a w) (g : Nat) : a.grownBy w (some g) := ⟨h.os, h.tape, h.output, h.size, fun i hi _ => h.block i hi⟩
theorem want_any (p n : Int) (w : World) (T : Tab w g tr ba ke ho F) :
    Calls Try.prog 12 #[.pointer (some ⟨g, 0, none⟩), .int .i64 p, .int .u64 n] w fun e w' => e = .returned (.int .i64 (wantE F p n)) ∧ Tab w' g tr ba ke ho (wantF F p n) ∧ w.grownBy w' (some g) := by
  unfold wantE wantF
  by_cases hb : Bad p n
  · rw [if_pos hb, if_pos hb]
    refine (want_bad _ p n w hb).mono ?_
    rintro e w' ⟨rfl, rfl⟩
    exact ⟨rfl, T, only_refl _ _⟩
  · rw [if_neg hb, if_neg hb]
    unfold Bad at hb
    obtain ⟨k, rfl⟩ := Int.eq_ofNat_of_zero_le (show 0 ≤ p by omega)
    simp only [Int.toNat_natCast]
    by_cases h : (F k).b ≠ 0
    · rw [if_pos h, if_pos h]
      refine (want_old k n w T (by omega) (by omega) (by omega) h).mono ?_
      rintro e w' ⟨rfl, rfl⟩
      exact ⟨rfl, T, only_refl _ _⟩
    · rw [if_neg h, if_neg h]
      exact want_ok k n w T (by omega) (by omega) (by omega) (by omega)
theorem open_any (N : Num tr ba ke ho) (p i q n : Int) (w : World) (T : Tab w g tr ba ke ho F) (h0 : 0 ≤ n) :
    Calls Try.prog 14 #[.pointer (some ⟨g, 0, none⟩), .int .i64 p, .agg #[.int .u32 i, .int .u16 q], .int .u64 n] w fun e w' => e = .returned (.int .i64 (openE p i q n)) ∧ Tab w' g tr ba ke ho (openF ke ho F p i q n) ∧ w.grownBy w' (some g) := by
  have := N.k1; have := N.k2; have := N.o1; have := N.o2
  unfold openE openF
  by_cases hb : Bad p n
  · rw [if_pos hb, if_pos hb]
    refine (open_bad _ p i q n w hb).mono ?_
    rintro e w' ⟨rfl, h⟩
    exact ⟨rfl, T.keep h, only_below h _⟩
  · rw [if_neg hb, if_neg hb]
    unfold Bad at hb
    by_cases hn : noneB i q = true
    · rw [if_pos hn, if_pos hn]
      refine (open_none _ p i q n w (by omega) (by omega) (by omega) hn).mono ?_
      rintro e w' ⟨rfl, h⟩
      exact ⟨rfl, T.keep h, only_below h _⟩
    · rw [if_neg hn, if_neg hn]
      obtain ⟨k, rfl⟩ := Int.eq_ofNat_of_zero_le (show 0 ≤ p by omega)
      simp only [Int.toNat_natCast]
      exact open_ok k i q n w T (by omega) (by omega) h0 (by omega) (by simpa using hn) (by omega) (by omega) (by omega) (by omega)
theorem heard_any (N : Num tr ba ke ho) (p i q n : Int) (w : World) (T : Tab w g tr ba ke ho F) (h0 : 0 ≤ n) :
    Calls Try.prog 17 #[.pointer (some ⟨g, 0, none⟩), .int .i64 p, .agg #[.int .u32 i, .int .u16 q], .int .u64 n] w fun e w' => e = .returned (.bool (heardB F p i q n)) ∧ Tab w' g tr ba ke ho (heardF ho F p i q n) ∧ w.grownBy w' (some g) := by
  have := N.o1; have := N.o2
  unfold heardB heardF
  by_cases hh : Hears F p i q n
  · rw [if_pos hh, decide_eq_true hh]
    obtain ⟨hb, h3, hd, he⟩ := hh
    unfold Bad at hb
    obtain ⟨k, rfl⟩ := Int.eq_ofNat_of_zero_le (show 0 ≤ p by omega)
    simp only [Int.toNat_natCast] at *
    subst hd he
    exact heard_yes k (F k) n w T (by omega) (by omega) h0 (by omega) rfl h3 (by omega) (by omega)
  · rw [if_neg hh, decide_eq_false hh]
    have fin : ∀ (e : Ending) (w' : World), (e = .returned (.bool false) ∧ Below w.heap.size w w') → e = .returned (.bool false) ∧ Tab w' g tr ba ke ho F ∧ w.grownBy w' (some g) := fun e w' ⟨h1, h2⟩ => ⟨h1, T.keep h2, only_below h2 _⟩
    by_cases hp : p < 1 ∨ 32 < p
    · exact (heard_bad _ p i q n w hp).mono fin
    · obtain ⟨k, rfl⟩ := Int.eq_ofNat_of_zero_le (show 0 ≤ p by omega)
      unfold Hears Bad at hh
      simp only [Int.toNat_natCast] at hh
      by_cases h1 : (F k).b = 0
      · exact (heard_none k i q n w T (by omega) (by omega) h1).mono fin
      · by_cases h2 : 4611686018427387904 < n
        · exact (heard_late k i q n w T (by omega) (by omega) h1 h2).mono fin
        · by_cases h3 : (F k).b = 3
          · exact (heard_else k i q n w T (by omega) (by omega) h3 (by omega) (by omega)).mono fin
          · exact (heard_state k i q n w T (by omega) (by omega) h1 h3 (by omega)).mono fin
theorem lost_any (p : Int) (w : World) (T : Tab w g tr ba ke ho F) :
    Calls Try.prog 19 #[.pointer (some ⟨g, 0, none⟩), .int .i64 p] w fun e w' => e = .returned (.bool (lostB F p)) ∧ Tab w' g tr ba ke ho (lostF F p) ∧ w.grownBy w' (some g) := by
  unfold lostB lostF
  by_cases hh : Loses F p
  · rw [if_pos hh, decide_eq_true hh]
    obtain ⟨h1, h2, h3⟩ := hh
    obtain ⟨k, rfl⟩ := Int.eq_ofNat_of_zero_le (show 0 ≤ p by omega)
    simp only [Int.toNat_natCast] at *
    exact lost_yes k w T (by omega) (by omega) h3
  · rw [if_neg hh, decide_eq_false hh]
    have fin : ∀ (e : Ending) (w' : World), (e = .returned (.bool false) ∧ Below w.heap.size w w') → e = .returned (.bool false) ∧ Tab w' g tr ba ke ho F ∧ w.grownBy w' (some g) := fun e w' ⟨h1, h2⟩ => ⟨h1, T.keep h2, only_below h2 _⟩
    by_cases hp : p < 1 ∨ 32 < p
    · exact (lost_bad _ p w hp).mono fin
    · obtain ⟨k, rfl⟩ := Int.eq_ofNat_of_zero_le (show 0 ≤ p by omega)
      unfold Loses at hh
      simp only [Int.toNat_natCast] at hh
      exact (lost_none k w T (by omega) (by omega) (by omega)).mono fin
/-- what Due answers -/
theorem go_any (N : Num tr ba ke ho) (n : Int) (w : World) (T : Tab w g tr ba ke ho F) (W : WF tr F) (h0 : 0 ≤ n) :
    Calls Try.prog 21 #[.pointer (some ⟨g, 0, none⟩), .int .u64 n] w fun e w' => ∃ v, e = .returned v ∧ Tab w' g tr ba ke ho (goF tr ba ke ho F n) ∧ w'.ownsRow w.heap.size 52 2 v (goL tr ba ke ho F n).length (sends (goL tr ba ke ho F n)) ∧ w.grownBy w' (some g) := by
  unfold goF goL
  by_cases h : 4611686018427387904 < n
  · rw [if_pos h, if_pos h]
    refine (due_late _ n w h).mono ?_
    rintro e w' ⟨rfl, rfl⟩
    exact ⟨_, rfl, T, ⟨rfl, .inl ⟨rfl, rfl⟩⟩, only_refl _ _⟩
  · rw [if_neg h, if_neg h]
    refine (due_any N n w T h0 (by omega) (fun k hk => (W.c k hk).1)).mono ?_
    rintro e w' ⟨v, rfl, h1, h2, h3⟩
    rw [dueL_all W 33 (Nat.le_refl _)] at h2
    exact ⟨v, rfl, h1, h2, h3⟩
/-- the deeds keep the paths' numbers -/
theorem WF.want (h : WF tr F) (ht : 1 ≤ tr) (p n : Int) : WF tr (wantF F p n) := by
  unfold wantF
  split
  · exact h
  · rename_i hb
    split
    · exact h
    · unfold Bad at hb
      exact h.upd (fun _ => by simp only []; omega) ⟨Int.le_refl _, by simp only []; omega⟩
theorem WF.open_ (h : WF tr F) (ht : 1 ≤ tr) (p i q n : Int) : WF tr (openF ke ho F p i q n) := by
  unfold openF
  split
  · exact h
  · rename_i hb
    split
    · exact h
    · unfold Bad at hb
      exact h.upd (fun _ => by simp only []; omega) ⟨Int.le_refl _, by simp only []; omega⟩
theorem WF.heard (h : WF tr F) (p i q n : Int) : WF tr (heardF ho F p i q n) := by
  unfold heardF
  split
  · rename_i hh
    obtain ⟨hb, h3, _⟩ := hh
    unfold Bad at hb
    exact h.upd (fun hx => h.a _ (by omega) hx) (h.c _ (by omega))
  · exact h
theorem WF.lost (h : WF tr F) (ht : 1 ≤ tr) (p : Int) : WF tr (lostF F p) := by
  unfold lostF
  split
  · exact h.upd (fun hx => absurd rfl hx) ⟨Int.le_refl _, by show (0 : Int) ≤ tr; omega⟩
  · exact h
theorem WF.go (h : WF tr F) (ht : 1 ≤ tr) (n : Int) : WF tr (goF tr ba ke ho F n) := by
  unfold goF
  split
  · exact h
  · exact h.due ht
end
end Go.Proofs.Ytglliiijeadhcaa
