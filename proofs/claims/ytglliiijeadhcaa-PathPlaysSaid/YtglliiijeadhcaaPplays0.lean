/- The plain law of PathPlays: the rising list of the paths that are some, and what each deed makes of it; no program in sight. -/
import Derived.Test.YtglliiijeadhcaaKd
namespace Go.Proofs.Ytglliiijeadhcaa
open Go.RowKit
set_option linter.unusedVariables false

def one (x : Pt) : List Pt := if x.b ≠ 0 then [x] else []
/-- the paths from k on, n of them looked at -/
def allT (F : Nat → Pt) : Nat → Nat → List Pt
  | 0, _ => []
  | n + 1, k => one (F k) ++ allT F n (k + 1)
theorem allL_succ (F : Nat → Pt) (k : Nat) : allL F (k + 1) = allL F k ++ one (F k) := rfl
theorem allL_split (F : Nat → Pt) : ∀ n k, allL F (k + n) = allL F k ++ allT F n k
  | 0, k => by simp [allT]
  | n + 1, k => by
    rw [show k + (n + 1) = (k + 1) + n by omega, allL_split F n (k + 1), allL_succ, allT, List.append_assoc]
theorem allL_cut (F : Nat → Pt) {p : Nat} (hp : p < 33) : allL F 33 = allL F p ++ (one (F p) ++ allT F (32 - p) (p + 1)) := by
  have h := allL_split F (33 - p) p
  rw [show p + (33 - p) = 33 by omega] at h
  rw [h, show 33 - p = (32 - p) + 1 by omega]
  rfl
theorem allL_upd (F : Nat → Pt) (p : Nat) (x : Pt) : ∀ k, k ≤ p → allL (upd F p x) k = allL F k
  | 0, _ => rfl
  | k + 1, h => by rw [allL_succ, allL_succ, allL_upd F p x k (by omega), upd_ne _ _ (by omega)]
theorem allT_upd (F : Nat → Pt) (p : Nat) (x : Pt) : ∀ n k, p < k → allT (upd F p x) n k = allT F n k
  | 0, _, _ => rfl
  | n + 1, k, h => by rw [allT, allT, allT_upd F p x n (k + 1) (by omega), upd_ne _ _ (by omega)]
theorem allL_put (F : Nat → Pt) {p : Nat} (hp : p < 33) (x : Pt) : allL (upd F p x) 33 = allL F p ++ (one x ++ allT F (32 - p) (p + 1)) := by
  rw [allL_cut (upd F p x) hp, allL_upd F p x p (Nat.le_refl _), allT_upd F p x _ _ (by omega), upd_at]

/-- each path bears its own number; how often it was tried is in its bounds -/
structure WF (tr : Int) (F : Nat → Pt) : Prop where
  a : ∀ k, k < 33 → (F k).b ≠ 0 → (F k).a = k ∧ 1 ≤ k
  c : ∀ k, k < 33 → 0 ≤ (F k).c ∧ (F k).c ≤ tr
theorem WF.zero {tr : Int} (h : 0 ≤ tr) : WF tr (fun _ => Pt.zero) := ⟨fun k _ h => absurd rfl h, fun k _ => ⟨Int.le_refl _, h⟩⟩
theorem WF.upd {tr : Int} {F : Nat → Pt} (h : WF tr F) {p : Nat} {x : Pt} (hx : x.b ≠ 0 → x.a = p ∧ 1 ≤ p) (hc : 0 ≤ x.c ∧ x.c ≤ tr) : WF tr (upd F p x) where
  a k hk hb := by
    by_cases e : k = p
    · subst e; rw [upd_at] at hb ⊢; exact hx hb
    · rw [upd_ne _ _ e] at hb ⊢; exact h.a k hk hb
  c k hk := by
    by_cases e : k = p
    · subst e; rw [upd_at]; exact hc
    · rw [upd_ne _ _ e]; exact h.c k hk
theorem mem_one {x y : Pt} (h : y ∈ one x) : y = x ∧ x.b ≠ 0 := by
  unfold one at h
  split at h
  · rename_i hb; exact ⟨List.mem_singleton.1 h, hb⟩
  · cases h
theorem allL_mem {F : Nat → Pt} {y : Pt} : ∀ k, y ∈ allL F k → ∃ i, i < k ∧ y = F i ∧ (F i).b ≠ 0
  | 0, h => by cases h
  | k + 1, h => by
    rw [allL_succ] at h
    rcases List.mem_append.1 h with h | h
    · obtain ⟨i, h1, h2⟩ := allL_mem k h
      exact ⟨i, by omega, h2⟩
    · obtain ⟨rfl, hb⟩ := mem_one h
      exact ⟨k, by omega, rfl, hb⟩
theorem allT_mem {F : Nat → Pt} {y : Pt} : ∀ n k, y ∈ allT F n k → ∃ i, k ≤ i ∧ i < k + n ∧ y = F i ∧ (F i).b ≠ 0
  | 0, k, h => by cases h
  | n + 1, k, h => by
    rw [allT] at h
    rcases List.mem_append.1 h with h | h
    · obtain ⟨rfl, hb⟩ := mem_one h
      exact ⟨k, by omega, by omega, rfl, hb⟩
    · obtain ⟨i, h1, h2, h3⟩ := allT_mem n (k + 1) h
      exact ⟨i, by omega, by omega, h3⟩

/-- where a peer stands, or is to stand, in a rising list -/
structure At (l : List Pt) (p : Int) (at_ : Nat) (there : Bool) : Prop where
  le : at_ ≤ l.length
  lo : ∀ j (h : j < l.length), j < at_ → (l[j]).a < p
  yes : there = true → ∃ h : at_ < l.length, (l[at_]).a = p
  no : there = false → ∀ h : at_ < l.length, p < (l[at_]).a
/-- the place of a peer among the paths of a table -/
theorem at_of {tr : Int} {F : Nat → Pt} (W : WF tr F) {p : Nat} (hp : p < 33) {m : Nat} {there : Bool} (h : At (allL F 33) p m there) :
    m = (allL F p).length ∧ (there = true ↔ (F p).b ≠ 0) := by
  rw [allL_cut F hp] at h
  have hA : ∀ y, y ∈ allL F p → y.a < p := fun y hy => by
    obtain ⟨i, h1, rfl, h3⟩ := allL_mem p hy
    have := (W.a i (by omega) h3).1
    omega
  have hT : ∀ y, y ∈ allT F (32 - p) (p + 1) → (p : Int) < y.a := fun y hy => by
    obtain ⟨i, h1, h2, rfl, h3⟩ := allT_mem _ _ hy
    have := (W.a i (by omega) h3).1
    omega
  generalize allL F p = A at h hA
  generalize allT F (32 - p) (p + 1) = B at h hT
  have hm1 : A.length ≤ m := by
    rcases Nat.lt_or_ge m A.length with hlt | hge
    · have hl : m < (A ++ (one (F p) ++ B)).length := by rw [List.length_append]; omega
      have hg : (A ++ (one (F p) ++ B))[m] = A[m] := List.getElem_append_left hlt
      have hlt2 := hA _ (List.getElem_mem hlt)
      cases there with
      | true => obtain ⟨h1, h2⟩ := h.yes rfl; rw [hg] at h2; omega
      | false => have := h.no rfl hl; rw [hg] at this; omega
    · exact hge
  by_cases hb : (F p).b ≠ 0
  · have ho : one (F p) = [F p] := by unfold one; rw [if_pos hb]
    rw [ho] at h
    have hpa := (W.a p hp hb).1
    have hl : A.length < (A ++ ([F p] ++ B)).length := by simp
    have hg : (A ++ ([F p] ++ B))[A.length] = F p := by simp
    have hm2 : m ≤ A.length := by
      rcases Nat.lt_or_ge A.length m with hlt | hge
      · have := h.lo A.length hl hlt; rw [hg] at this; omega
      · exact hge
    obtain rfl : m = A.length := by omega
    refine ⟨rfl, fun _ => hb, fun _ => ?_⟩
    cases there with
    | true => rfl
    | false => have := h.no rfl hl; rw [hg] at this; omega
  · have ho : one (F p) = [] := by unfold one; rw [if_neg hb]
    rw [ho] at h
    have hgt : ∀ j (hj : j < (A ++ ([] ++ B)).length), A.length ≤ j → (p : Int) < ((A ++ ([] ++ B))[j]).a := fun j hj hjA => by
      apply hT
      have : (A ++ ([] ++ B))[j] = ([] ++ B)[j - A.length]'(by simp at hj ⊢; omega) := List.getElem_append_right hjA
      rw [this]
      exact List.getElem_mem _
    have hm2 : m ≤ A.length := by
      rcases Nat.lt_or_ge A.length m with hlt | hge
      · have hl : A.length < (A ++ ([] ++ B)).length := Nat.lt_of_lt_of_le hlt h.le
        have h1 := h.lo A.length hl hlt
        have h2 := hgt A.length hl (Nat.le_refl _)
        omega
      · exact hge
    obtain rfl : m = A.length := by omega
    refine ⟨rfl, fun ht => ?_, fun hb2 => absurd hb2 hb⟩
    obtain ⟨h1, h2⟩ := h.yes ht
    have := hgt _ h1 (Nat.le_refl _)
    omega
/-- a peer that is none is nowhere -/
theorem at_bad {tr : Int} {F : Nat → Pt} (W : WF tr F) {p : Int} (hp : p < 1 ∨ 32 < p) {m : Nat} {there : Bool} (h : At (allL F 33) p m there) : there = false := by
  cases there with
  | false => rfl
  | true =>
    obtain ⟨h1, h2⟩ := h.yes rfl
    obtain ⟨i, hi, he, hb⟩ := allL_mem 33 (List.getElem_mem h1)
    have := W.a i hi hb
    rw [he] at h2
    omega
/-- set: in the place of one that was; or between those ahead and those behind -/
theorem set_there {F : Nat → Pt} {p : Nat} (hp : p < 33) (hb : (F p).b ≠ 0) (x : Pt) (hx : x.b ≠ 0) : (allL F 33).set (allL F p).length x = allL (upd F p x) 33 := by
  rw [allL_cut F hp, allL_put F hp]
  have h1 : one (F p) = [F p] := by unfold one; rw [if_pos hb]
  have h2 : one x = [x] := by unfold one; rw [if_pos hx]
  rw [h1, h2, List.set_append_right _ _ (Nat.le_refl _)]
  simp
theorem set_new {F : Nat → Pt} {p : Nat} (hp : p < 33) (hb : ¬ (F p).b ≠ 0) (x : Pt) (hx : x.b ≠ 0) : (allL F 33).take (allL F p).length ++ (x :: (allL F 33).drop (allL F p).length) = allL (upd F p x) 33 := by
  rw [allL_cut F hp, allL_put F hp]
  have h1 : one (F p) = [] := by unfold one; rw [if_neg hb]
  have h2 : one x = [x] := by unfold one; rw [if_pos hx]
  rw [h1, h2]
  simp
theorem lost_there {F : Nat → Pt} {p : Nat} (hp : p < 33) (hb : (F p).b ≠ 0) : (allL F 33).take (allL F p).length ++ (allL F 33).drop ((allL F p).length + 1) = allL (upd F p Pt.zero) 33 := by
  rw [allL_cut F hp, allL_put F hp]
  have h1 : one (F p) = [F p] := by unfold one; rw [if_pos hb]
  have h2 : one Pt.zero = [] := rfl
  rw [h1, h2]
  simp [List.drop_append]
theorem at_get {F : Nat → Pt} {p : Nat} (hp : p < 33) (hb : (F p).b ≠ 0) : ∃ h : (allL F p).length < (allL F 33).length, (allL F 33)[(allL F p).length] = F p := by
  have h1 : one (F p) = [F p] := by unfold one; rw [if_pos hb]
  have e : allL F 33 = allL F p ++ (F p :: allT F (32 - p) (p + 1)) := by rw [allL_cut F hp, h1]; rfl
  have hl : (allL F p).length < (allL F 33).length := by rw [e]; simp
  refine ⟨hl, ?_⟩
  have : (allL F 33)[(allL F p).length]? = some (F p) := by rw [e]; simp
  rw [List.getElem?_eq_getElem hl] at this
  exact Option.some.inj this
/-- Due: each path goes on; what is to be sent -/
theorem one_step {tr ba ke ho n : Int} {x : Pt} (hx : x.b ≠ 0) (h : (stepF tr ba ke ho n x).1.b ≠ 0) : one (stepF tr ba ke ho n x).1 = (one x).map (fun x => (stepF tr ba ke ho n x).1) := by
  unfold one; rw [if_pos h, if_pos hx]; rfl
theorem step_b {tr ba ke ho n : Int} {x : Pt} (hx : x.b ≠ 0) : (stepF tr ba ke ho n x).1.b ≠ 0 := by
  unfold stepF
  repeat' split
  all_goals first | exact hx | exact (by decide : (1 : Int) ≠ 0) | exact (by decide : (2 : Int) ≠ 0)
theorem step_a {tr ba ke ho n : Int} {x : Pt} : (stepF tr ba ke ho n x).1.a = x.a := by
  unfold stepF
  repeat' split
  all_goals rfl
theorem step_c {tr ba ke ho n : Int} {x : Pt} (ht : 1 ≤ tr) (h : 0 ≤ x.c ∧ x.c ≤ tr) : 0 ≤ (stepF tr ba ke ho n x).1.c ∧ (stepF tr ba ke ho n x).1.c ≤ tr := by
  unfold stepF
  split
  · exact h
  · split
    · exact h
    · split
      · exact h
      · rename_i h3
        split
        · rename_i h4
          show 0 ≤ x.c + 1 ∧ x.c + 1 ≤ tr
          omega
        · show (0 : Int) ≤ 1 ∧ (1 : Int) ≤ tr
          omega
theorem WF.due {tr ba ke ho n : Int} {F : Nat → Pt} (h : WF tr F) (ht : 1 ≤ tr) : WF tr (dueF tr ba ke ho n F 33) where
  a k hk hb := by
    unfold dueF at hb ⊢
    by_cases e : (F k).b ≠ 0
    · rw [if_pos ⟨hk, e⟩, step_a]; exact h.a k hk e
    · rw [if_neg (fun c => e c.2)] at hb; exact absurd hb e
  c k hk := by
    unfold dueF
    split
    · exact step_c ht (h.c k hk)
    · exact h.c k hk
theorem dueF_all (tr ba ke ho n : Int) (F : Nat → Pt) : ∀ k, k ≤ 33 → allL (dueF tr ba ke ho n F 33) k = (allL F k).map (fun x => (stepF tr ba ke ho n x).1)
  | 0, _ => rfl
  | k + 1, hk => by
    rw [allL_succ, allL_succ, dueF_all tr ba ke ho n F k (by omega), List.map_append]
    congr 1
    by_cases e : (F k).b ≠ 0
    · have : dueF tr ba ke ho n F 33 k = (stepF tr ba ke ho n (F k)).1 := by unfold dueF; rw [if_pos ⟨by omega, e⟩]
      rw [this]
      exact one_step e (step_b e)
    · have : dueF tr ba ke ho n F 33 k = F k := by unfold dueF; rw [if_neg (fun c => e c.2)]
      rw [this]
      unfold one
      rw [if_neg e]
      rfl
/-- what the list's paths send -/
def sendL (tr ba ke ho n : Int) : List Pt → List (Int × Int)
  | [] => []
  | x :: l => (if 0 < (stepF tr ba ke ho n x).2 then [(x.a, (stepF tr ba ke ho n x).2)] else []) ++ sendL tr ba ke ho n l
theorem sendL_append (tr ba ke ho n : Int) : ∀ l m, sendL tr ba ke ho n (l ++ m) = sendL tr ba ke ho n l ++ sendL tr ba ke ho n m
  | [], m => rfl
  | x :: l, m => by rw [List.cons_append, sendL, sendL, sendL_append tr ba ke ho n l m, List.append_assoc]
theorem dueL_all {tr ba ke ho n : Int} {F : Nat → Pt} (W : WF tr F) : ∀ k, k ≤ 33 → dueL tr ba ke ho n F k = sendL tr ba ke ho n (allL F k)
  | 0, _ => rfl
  | k + 1, hk => by
    rw [allL_succ, sendL_append, ← dueL_all W k (by omega), dueL]
    congr 1
    by_cases e : (F k).b ≠ 0
    · unfold one
      rw [if_pos e, sendL, sendL, List.append_nil, (W.a k (by omega) e).1]
      by_cases h : 0 < (stepF tr ba ke ho n (F k)).2
      · rw [if_pos ⟨e, h⟩, if_pos h]
      · rw [if_neg (fun c => h c.2), if_neg h]
    · unfold one
      rw [if_neg e, if_neg (fun c => e c.1)]
      rfl
theorem sendL_len (tr ba ke ho n : Int) : ∀ l, (sendL tr ba ke ho n l).length ≤ l.length
  | [] => Nat.le_refl _
  | x :: l => by
    have := sendL_len tr ba ke ho n l
    rw [sendL, List.length_append, List.length_cons]
    split <;> simp <;> omega
end Go.Proofs.Ytglliiijeadhcaa
