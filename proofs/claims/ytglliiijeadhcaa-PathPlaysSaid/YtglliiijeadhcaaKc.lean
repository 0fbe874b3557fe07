/- What Due and All answer of a table with one path, or none; no conditions but those that each theorem names. -/
import Derived.Test.YtglliiijeadhcaaKb
namespace Go.Proofs.Ytglliiijeadhcaa
open Go.RowKit
variable {g : Nat} {tr ba ke ho : Int} {F : Nat → Pt}

/-! a table with one path -/
def Zt : Nat → Pt := fun _ => Pt.zero
theorem dueF_one {n : Int} {p : Nat} {x y : Pt} {q : Int} (hp : p < 33) (hx : x.b ≠ 0) (hs : stepF tr ba ke ho n x = (y, q)) : dueF tr ba ke ho n (upd Zt p x) 33 = upd Zt p y := by
  funext i
  unfold dueF upd
  by_cases e : i = p
  · subst e; simp [hp, hx, hs]
  · simp [e, Zt, Pt.zero]
theorem dueL_one {n : Int} {p : Nat} {x y : Pt} {q : Int} (hs : stepF tr ba ke ho n x = (y, q)) (hx : x.b ≠ 0) : ∀ k, dueL tr ba ke ho n (upd Zt p x) k = if p < k ∧ 0 < q then [((p : Int), q)] else []
  | 0 => by simp [dueL]
  | k + 1 => by
    unfold dueL
    rw [dueL_one hs hx k]
    by_cases e : k = p
    · subst e
      rw [upd_at, hs]
      by_cases hq : 0 < q <;> simp [hq, hx]
    · rw [upd_ne _ _ e]
      have hz : (Zt k).b = 0 := rfl
      have h1 : (p < k + 1 ∧ 0 < q) ↔ (p < k ∧ 0 < q) := by omega
      simp [hz, h1]
theorem one_c {p : Nat} {x : Pt} (hc : 0 ≤ x.c) : ∀ k, k < 33 → 0 ≤ (upd Zt p x k).c := by
  intro k _
  unfold upd
  split
  · exact hc
  · exact Int.le_refl _
theorem due_send (N : Num tr ba ke ho) (p : Nat) (x y : Pt) (q n : Int) (w : World) (T : Tab w g tr ba ke ho (upd Zt p x)) (p2 : p < 33) (h0 : 0 ≤ n) (h3 : n ≤ 4611686018427387904) (hx : x.b ≠ 0) (hc : 0 ≤ x.c)
    (hs : stepF tr ba ke ho n x = (y, q)) (hq : 0 < q) :
    Calls Try.prog 21 #[.pointer (some ⟨g, 0, none⟩), .int .u64 n] w fun e w' => ∃ g' c cur, e = .returned (.slice (some ⟨g', 0, none⟩) 1 c) ∧ Tab w' g tr ba ke ho (upd Zt p y) ∧ w.grownBy w' (some g) ∧ w.heap.size ≤ g' ∧ 1 ≤ c ∧ Blk w' g' 52 cur ∧ cur[0]? = some (.int .i64 p) ∧ cur[1]? = some (.int .i64 q) := by
  refine (due_any N n w T h0 h3 (one_c hc)).mono ?_
  rintro e w' ⟨v, rfl, h1, h2, h4⟩
  rw [dueF_one p2 hx hs] at h1
  rw [dueL_one hs hx 33, if_pos ⟨p2, hq⟩] at h2
  obtain ⟨_, h2⟩ := h2
  rcases h2 with ⟨_, h2⟩ | ⟨g', c, cur, rfl, hb, hh, hcap, _, _, ht⟩
  · cases h2
  · refine ⟨g', c, cur, rfl, h1, h4, hb, hcap, ⟨hh⟩, ?_, ?_⟩
    · have e0 : (cur.toList.take (1 * 2))[0]? = some (.int .i64 p) := by
        have : cur.toList.take (1 * 2) = [.int .i64 p, .int .i64 q] := ht
        rw [this]; rfl
      rw [List.getElem?_take_of_lt (by omega)] at e0
      simpa using e0
    · have e0 : (cur.toList.take (1 * 2))[1]? = some (.int .i64 q) := by
        have : cur.toList.take (1 * 2) = [.int .i64 p, .int .i64 q] := ht
        rw [this]; rfl
      rw [List.getElem?_take_of_lt (by omega)] at e0
      simpa using e0
theorem due_still (N : Num tr ba ke ho) (p : Nat) (x y : Pt) (q n : Int) (w : World) (T : Tab w g tr ba ke ho (upd Zt p x)) (p2 : p < 33) (h0 : 0 ≤ n) (h3 : n ≤ 4611686018427387904) (hx : x.b ≠ 0) (hc : 0 ≤ x.c)
    (hs : stepF tr ba ke ho n x = (y, q)) (hq : ¬ 0 < q) :
    Calls Try.prog 21 #[.pointer (some ⟨g, 0, none⟩), .int .u64 n] w fun e w' => ∃ A c, e = .returned (.slice A 0 c) ∧ Tab w' g tr ba ke ho (upd Zt p y) ∧ w.grownBy w' (some g) := by
  refine (due_any N n w T h0 h3 (one_c hc)).mono ?_
  rintro e w' ⟨v, rfl, h1, h2, h4⟩
  rw [dueF_one p2 hx hs] at h1
  rw [dueL_one hs hx 33, if_neg (by omega)] at h2
  obtain ⟨hl, h2⟩ := h2
  rcases h2 with ⟨rfl, _⟩ | ⟨g', c, cur, rfl, hb, hh, hcap, hcap2, hsz, ht⟩
  · exact ⟨_, _, rfl, h1, h4⟩
  · exact ⟨_, _, rfl, h1, h4⟩
theorem dueL_none {n : Int} : ∀ k, dueL tr ba ke ho n Zt k = []
  | 0 => rfl
  | k + 1 => by
    unfold dueL
    rw [dueL_none k]
    simp [Zt, Pt.zero]
theorem allL_none : ∀ k, allL Zt k = []
  | 0 => rfl
  | k + 1 => by
    unfold allL
    rw [allL_none k]
    simp [Zt, Pt.zero]
theorem all_none (w : World) (T : Tab w g tr ba ke ho Zt) : Calls Try.prog 23 #[.pointer (some ⟨g, 0, none⟩)] w fun e w' => ∃ A c, e = .returned (.slice A 0 c) ∧ Below w.heap.size w w' := by
  refine (all_any w T).mono ?_
  rintro e w' ⟨v, rfl, h2, h4⟩
  rw [allL_none] at h2
  obtain ⟨hl, h2⟩ := h2
  rcases h2 with ⟨rfl, _⟩ | ⟨g', c, cur, rfl, hb, hh, hcap, hcap2, hsz, ht⟩
  · exact ⟨_, _, rfl, h4⟩
  · exact ⟨_, _, rfl, h4⟩
theorem due_none (N : Num tr ba ke ho) (n : Int) (w : World) (T : Tab w g tr ba ke ho Zt) (h0 : 0 ≤ n) (h3 : n ≤ 4611686018427387904) :
    Calls Try.prog 21 #[.pointer (some ⟨g, 0, none⟩), .int .u64 n] w fun e w' => ∃ A c, e = .returned (.slice A 0 c) ∧ Tab w' g tr ba ke ho Zt ∧ w.grownBy w' (some g) := by
  refine (due_any N n w T h0 h3 (fun k _ => Int.le_refl _)).mono ?_
  rintro e w' ⟨v, rfl, h1, h2, h4⟩
  have e0 : dueF tr ba ke ho n Zt 33 = Zt := by
    funext i
    unfold dueF
    simp [Zt, Pt.zero]
  rw [e0] at h1
  rw [dueL_none] at h2
  obtain ⟨hl, h2⟩ := h2
  rcases h2 with ⟨rfl, _⟩ | ⟨g', c, cur, rfl, hb, hh, hcap, hcap2, hsz, ht⟩
  · exact ⟨_, _, rfl, h1, h4⟩
  · exact ⟨_, _, rfl, h1, h4⟩
theorem upd_zero (p : Nat) : upd Zt p Pt.zero = Zt := by
  funext i; unfold upd Zt; split <;> rfl
end Go.Proofs.Ytglliiijeadhcaa
