/- The plain law of PathMany: how a table of up to eight paths goes on, and what is to be sent; no program in sight. -/
import Derived.Test.YtglliiijeadhcaaKd
namespace Go.Proofs.Ytglliiijeadhcaa
open Go.RowKit
set_option linter.unusedVariables false

/-- The tables of the first loop. -/
def pmF (wa op : Int) (t : Nat) : Nat → Pt := fun k => if 1 ≤ k ∧ k ≤ t then (if op / 2 ^ (k - 1) % 2 = 1 then ⟨k, 3, 0, 3, 3, 4, 20⟩ else if wa / 2 ^ (k - 1) % 2 = 1 then ⟨k, 2, 0, 0, 0, 0, 0⟩ else Pt.zero) else Pt.zero
/-- How many there are. -/
def pmC (wa op : Int) : Nat → Nat
  | 0 => 0
  | t + 1 => pmC wa op t + (if wa / 2 ^ t % 2 = 1 ∨ op / 2 ^ t % 2 = 1 then 1 else 0)
theorem pmC_le (wa op : Int) : ∀ t, pmC wa op t ≤ t
  | 0 => Nat.le_refl _
  | t + 1 => by have := pmC_le wa op t; unfold pmC; split <;> omega
theorem pmF_0 (wa op : Int) : pmF wa op 0 = fun _ => Pt.zero := by
  funext k; unfold pmF; rw [if_neg (by omega)]
theorem pmF_at (wa op : Int) (t : Nat) : pmF wa op t (t + 1) = Pt.zero := by
  unfold pmF; rw [if_neg (by omega)]
theorem pmF_ne (wa op : Int) (t k : Nat) (h : k ≠ t + 1) : pmF wa op (t + 1) k = pmF wa op t k := by
  unfold pmF
  have : (1 ≤ k ∧ k ≤ t + 1) ↔ (1 ≤ k ∧ k ≤ t) := by omega
  simp only [this]
theorem pmF_op (wa op : Int) (t : Nat) (h : op / 2 ^ t % 2 = 1) : upd (pmF wa op t) (t + 1) ⟨((t + 1 : Nat) : Int), 3, 0, 3, 3, 4, 20⟩ = pmF wa op (t + 1) := by
  funext k
  by_cases e : k = t + 1
  · subst e
    rw [upd_at]
    unfold pmF
    rw [if_pos (by omega), Nat.add_sub_cancel, if_pos h]
  · rw [upd_ne _ _ e, pmF_ne _ _ _ _ e]
theorem pmF_wa (wa op : Int) (t : Nat) (h : ¬ op / 2 ^ t % 2 = 1) (h2 : wa / 2 ^ t % 2 = 1) : upd (pmF wa op t) (t + 1) ⟨((t + 1 : Nat) : Int), 2, 0, 0, 0, 0, 0⟩ = pmF wa op (t + 1) := by
  funext k
  by_cases e : k = t + 1
  · subst e
    rw [upd_at]
    unfold pmF
    rw [if_pos (by omega), Nat.add_sub_cancel, if_neg h, if_pos h2]
  · rw [upd_ne _ _ e, pmF_ne _ _ _ _ e]
theorem pmF_no (wa op : Int) (t : Nat) (h : ¬ op / 2 ^ t % 2 = 1) (h2 : ¬ wa / 2 ^ t % 2 = 1) : pmF wa op t = pmF wa op (t + 1) := by
  funext k
  by_cases e : k = t + 1
  · subst e
    rw [pmF_at]
    unfold pmF
    rw [if_pos (by omega), Nat.add_sub_cancel, if_neg h, if_neg h2]
  · rw [pmF_ne _ _ _ _ e]

/-- A table behind the first loop, ahead of the time n. -/
structure PMI (wa op n : Int) (F : Nat → Pt) : Prop where
  z : ∀ k, k < 33 → (F k).b ≠ 0 → 1 ≤ k ∧ k ≤ 8
  nz : ∀ i, i < 8 → ((F (i + 1)).b ≠ 0 ↔ (wa / 2 ^ i % 2 = 1 ∨ op / 2 ^ i % 2 = 1))
  c : ∀ k, k < 33 → 0 ≤ (F k).c
  d : ∀ i, i < 8 → (F (i + 1)).b = 3 → op / 2 ^ i % 2 = 1
  s : ∀ i, i < 8 → op / 2 ^ i % 2 = 1 → n < 20 → (F (i + 1)).b = 3 ∧ (F (i + 1)).k = 20
theorem pmF_c (wa op : Int) (t k : Nat) : 0 ≤ (pmF wa op t k).c := by
  unfold pmF Pt.zero; split
  · split
    · exact Int.le_refl _
    · split <;> exact Int.le_refl _
  · exact Int.le_refl _
theorem pmi_start (wa op : Int) : PMI wa op 0 (pmF wa op 8) where
  z k hk h := by
    rcases Nat.lt_or_ge 0 k with h1 | h1
    · rcases Nat.lt_or_ge 8 k with h2 | h2
      · refine absurd ?_ h; unfold pmF; rw [if_neg (by omega)]; rfl
      · omega
    · refine absurd ?_ h; unfold pmF; rw [if_neg (by omega)]; rfl
  nz i hi := by
    unfold pmF
    rw [if_pos (by omega), Nat.add_sub_cancel]
    by_cases h : op / 2 ^ i % 2 = 1
    · simp [h]
    · by_cases h2 : wa / 2 ^ i % 2 = 1
      · simp [h, h2]
      · simp [h, h2, Pt.zero]
  c k hk := pmF_c _ _ _ _
  d i hi h := by
    unfold pmF at h
    rw [if_pos (by omega), Nat.add_sub_cancel] at h
    by_cases h1 : op / 2 ^ i % 2 = 1
    · exact h1
    · rw [if_neg h1] at h
      by_cases h2 : wa / 2 ^ i % 2 = 1
      · rw [if_pos h2] at h; exact absurd h (show (2 : Int) ≠ 3 by decide)
      · rw [if_neg h2] at h; exact absurd h (show (0 : Int) ≠ 3 by decide)
  s i hi h _ := by
    unfold pmF
    rw [if_pos (by omega), Nat.add_sub_cancel, if_pos h]
    exact ⟨rfl, rfl⟩
/-- one path goes on -/
theorem stepF_pm (n : Int) (x : Pt) (hb : x.b ≠ 0) (hc : 0 ≤ x.c) :
    (stepF 2 3 4 20 n x).1.b ≠ 0 ∧ 0 ≤ (stepF 2 3 4 20 n x).1.c ∧ ((stepF 2 3 4 20 n x).1.b = 3 → x.b = 3) ∧ n < (stepF 2 3 4 20 n x).1.f ∧ ((stepF 2 3 4 20 n x).2 = 2 → x.b = 3) ∧
    (x.b = 3 → n < x.k → (stepF 2 3 4 20 n x).1.b = 3 ∧ (stepF 2 3 4 20 n x).1.k = x.k ∧ (stepF 2 3 4 20 n x).2 ≠ 1) ∧ ((stepF 2 3 4 20 n x).2 = 0 ∨ (stepF 2 3 4 20 n x).2 = 1 ∨ (stepF 2 3 4 20 n x).2 = 2) := by
  unfold stepF
  by_cases c1 : n < x.f
  · rw [if_pos c1]
    exact ⟨hb, hc, id, c1, fun h => absurd h (show (0 : Int) ≠ 2 by decide), fun h _ => ⟨h, rfl, show (0 : Int) ≠ 1 by decide⟩, .inl rfl⟩
  rw [if_neg c1]
  by_cases c2 : x.b = 3 ∧ n < x.k
  · rw [if_pos c2]
    exact ⟨hb, hc, id, show n < n + 4 by omega, fun _ => c2.1, fun h _ => ⟨h, rfl, show (2 : Int) ≠ 1 by decide⟩, .inr (.inr rfl)⟩
  rw [if_neg c2]
  by_cases c3 : x.b = 2 ∧ 2 ≤ x.c
  · rw [if_pos c3]
    exact ⟨show (1 : Int) ≠ 0 by decide, hc, fun h => absurd h (show (1 : Int) ≠ 3 by decide), show n < n + 20 by omega, fun h => absurd h (show (0 : Int) ≠ 2 by decide), fun h h' => absurd ⟨h, h'⟩ c2, .inl rfl⟩
  rw [if_neg c3]
  by_cases c4 : x.b = 2
  · rw [if_pos c4]
    have hp : (0 : Int) < 2 ^ x.c.toNat := Int.pow_pos (by decide)
    exact ⟨hb, show 0 ≤ x.c + 1 by omega, id, show n < n + 3 * 2 ^ x.c.toNat by omega, fun h => absurd h (show (1 : Int) ≠ 2 by decide), fun h h' => absurd ⟨h, h'⟩ c2, .inr (.inl rfl)⟩
  rw [if_neg c4]
  exact ⟨show (2 : Int) ≠ 0 by decide, show (0 : Int) ≤ 1 by decide, fun h => absurd h (show (2 : Int) ≠ 3 by decide), show n < n + 3 by omega, fun h => absurd h (show (1 : Int) ≠ 2 by decide), fun h h' => absurd ⟨h, h'⟩ c2, .inr (.inl rfl)⟩
theorem dueF_b (n : Int) (F : Nat → Pt) {k : Nat} (hk : k < 33) (h : (F k).b ≠ 0) : dueF 2 3 4 20 n F 33 k = (stepF 2 3 4 20 n (F k)).1 := by
  unfold dueF; rw [if_pos ⟨hk, h⟩]
theorem dueF_z (n : Int) (F : Nat → Pt) {k : Nat} (h : (F k).b = 0) : dueF 2 3 4 20 n F 33 k = F k := by
  unfold dueF; rw [if_neg (fun c => c.2 h)]
theorem pmi_next {wa op n : Int} {F : Nat → Pt} (h : PMI wa op n F) : PMI wa op (n + 1) (dueF 2 3 4 20 n F 33) where
  z k hk hb := by
    by_cases e : (F k).b = 0
    · rw [dueF_z n F e] at hb; exact absurd e hb
    · exact h.z k hk e
  nz i hi := by
    rw [← h.nz i hi]
    by_cases e : (F (i + 1)).b = 0
    · rw [dueF_z n F e]
    · rw [dueF_b n F (by omega) e]
      exact ⟨fun _ => e, fun _ => (stepF_pm n _ e (h.c _ (by omega))).1⟩
  c k hk := by
    by_cases e : (F k).b = 0
    · rw [dueF_z n F e]; exact h.c k hk
    · rw [dueF_b n F hk e]; exact (stepF_pm n _ e (h.c _ hk)).2.1
  d i hi hb := by
    by_cases e : (F (i + 1)).b = 0
    · rw [dueF_z n F e] at hb; exact h.d i hi hb
    · rw [dueF_b n F (by omega) e] at hb
      exact h.d i hi ((stepF_pm n _ e (h.c _ (by omega))).2.2.1 hb)
  s i hi ho hn := by
    obtain ⟨h1, h2⟩ := h.s i hi ho (by omega)
    have e : (F (i + 1)).b ≠ 0 := by omega
    rw [dueF_b n F (by omega) e]
    obtain ⟨a, b, _⟩ := (stepF_pm n _ e (h.c _ (by omega))).2.2.2.2.2.1 h1 (by omega)
    exact ⟨a, by omega⟩
/-- behind Due nothing is due -/
theorem pm_late {wa op n : Int} {F : Nat → Pt} (h : PMI wa op n F) : ∀ k, k < 33 → (dueF 2 3 4 20 n F 33 k).b ≠ 0 → n < (dueF 2 3 4 20 n F 33 k).f := by
  intro k hk hb
  by_cases e : (F k).b = 0
  · rw [dueF_z n F e] at hb; exact absurd e hb
  · rw [dueF_b n F hk e]; exact (stepF_pm n _ e (h.c _ hk)).2.2.2.1
theorem step_late {n : Int} {x : Pt} (h : n < x.f) : stepF 2 3 4 20 n x = (x, 0) := by unfold stepF; rw [if_pos h]
theorem dueF_late {n : Int} {F : Nat → Pt} (h : ∀ k, k < 33 → (F k).b ≠ 0 → n < (F k).f) : dueF 2 3 4 20 n F 33 = F := by
  funext k
  unfold dueF
  split
  · rename_i hk; rw [step_late (h k hk.1 hk.2)]
  · rfl
theorem dueL_late {n : Int} {F : Nat → Pt} (h : ∀ k, k < 33 → (F k).b ≠ 0 → n < (F k).f) : ∀ k, k ≤ 33 → dueL 2 3 4 20 n F k = []
  | 0, _ => rfl
  | k + 1, hk => by
    unfold dueL
    rw [dueL_late h k (by omega), List.nil_append]
    by_cases e : (F k).b = 0
    · rw [if_neg (fun c => c.1 e)]
    · rw [step_late (h k (by omega) e), if_neg (fun c => absurd c.2 (show ¬ (0 : Int) < 0 by decide))]
/-- what one entry is -/
def PmE (op n : Int) (e : Int × Int) : Prop := ∃ i : Nat, i < 8 ∧ e.1 = (i : Int) + 1 ∧ ((e.2 = 2 ∧ op / 2 ^ i % 2 = 1) ∨ (e.2 = 1 ∧ (op / 2 ^ i % 2 = 1 → 20 ≤ n)))
theorem dueL_mem {wa op n : Int} {F : Nat → Pt} (h : PMI wa op n F) : ∀ k, k ≤ 33 → ∀ e, e ∈ dueL 2 3 4 20 n F k → PmE op n e ∧ e.1 < (k : Int)
  | 0, _, e, he => by simp [dueL] at he
  | k + 1, hk, e, he => by
    unfold dueL at he
    rcases List.mem_append.1 he with he | he
    · have := dueL_mem h k (by omega) e he
      exact ⟨this.1, by omega⟩
    · by_cases c : (F k).b ≠ 0 ∧ 0 < (stepF 2 3 4 20 n (F k)).2
      · rw [if_pos c] at he
        obtain rfl := List.mem_singleton.1 he
        obtain ⟨z1, z2⟩ := h.z k (by omega) c.1
        obtain ⟨i, rfl⟩ : ∃ i, k = i + 1 := ⟨k - 1, by omega⟩
        obtain ⟨s1, s2, s3, s4, s5, s6, s7⟩ := stepF_pm n (F (i + 1)) c.1 (h.c _ (by omega))
        refine ⟨⟨i, by omega, by simp, ?_⟩, by simp only []; omega⟩
        rcases s7 with s7 | s7 | s7
        · omega
        · refine .inr ⟨s7, fun ho => ?_⟩
          rcases Int.lt_or_le n 20 with hn | hn
          · obtain ⟨a, b⟩ := h.s i (by omega) ho hn
            exact absurd s7 (s6 a (by omega)).2.2
          · exact hn
        · exact .inl ⟨s7, h.d i (by omega) (s5 s7)⟩
      · rw [if_neg c] at he; cases he
theorem dueL_inc {wa op n : Int} {F : Nat → Pt} (h : PMI wa op n F) : ∀ k, k ≤ 33 → (dueL 2 3 4 20 n F k).Pairwise (fun a b => a.1 < b.1)
  | 0, _ => List.Pairwise.nil
  | k + 1, hk => by
    unfold dueL
    refine List.pairwise_append.2 ⟨dueL_inc h k (by omega), ?_, ?_⟩
    · split
      · exact List.pairwise_singleton _ _
      · exact List.Pairwise.nil
    · intro a ha b hb
      have := (dueL_mem h k (by omega) a ha).2
      split at hb
      · obtain rfl := List.mem_singleton.1 hb; exact this
      · cases hb
/-- how many are in the end -/
theorem all_pm {wa op n : Int} {F : Nat → Pt} (h : PMI wa op n F) : ∀ k, k ≤ 32 → (allL F (k + 1)).length = pmC wa op (min k 8)
  | 0, _ => by
    unfold allL allL
    by_cases e : (F 0).b = 0
    · rw [if_neg (fun c => c e)]; rfl
    · exact absurd (h.z 0 (by omega) e).1 (by omega)
  | k + 1, hk => by
    have ih := all_pm h k (by omega)
    rw [allL, List.length_append, ih]
    by_cases hk8 : k < 8
    · rw [show min k 8 = k by omega, show min (k + 1) 8 = k + 1 by omega, pmC]
      have := h.nz k hk8
      by_cases e : (F (k + 1)).b ≠ 0
      · rw [if_pos e, if_pos (this.1 e)]; rfl
      · rw [if_neg e, if_neg (fun c => e (this.2 c))]; rfl
    · rw [show min k 8 = 8 by omega, show min (k + 1) 8 = 8 by omega]
      by_cases e : (F (k + 1)).b ≠ 0
      · have := h.z (k + 1) (by omega) e; omega
      · rw [if_neg e]; rfl
theorem all_pm33 {wa op n : Int} {F : Nat → Pt} (h : PMI wa op n F) : (allL F 33).length = pmC wa op 8 := all_pm h 32 (by omega)
/-- a row's cells -/
theorem sends_get : ∀ (l : List (Int × Int)) (j : Nat) (h : j < l.length), (sends l)[j * 2]? = some (.int .i64 (l[j]).1) ∧ (sends l)[j * 2 + 1]? = some (.int .i64 (l[j]).2)
  | [], j, h => by simp at h
  | (p, q) :: l, 0, h => ⟨rfl, rfl⟩
  | (p, q) :: l, j + 1, h => by
    have := sends_get l j (by simpa using h)
    rw [show (j + 1) * 2 = j * 2 + 1 + 1 by omega]
    simp only [sends, List.getElem?_cons_succ, List.getElem_cons_succ]
    exact this
theorem take_at {cur : Array Value} {xs : List Value} {m : Nat} (ht : cur.toList.take m = xs) {i : Nat} {v : Value} (h : xs[i]? = some v) (hi : i < m) : cur[i]? = some v := by
  rw [← ht, List.getElem?_take_of_lt hi] at h
  simpa using h
end Go.Proofs.Ytglliiijeadhcaa
