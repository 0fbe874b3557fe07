/- The reference's table in memory: a block of its own and a row of paths; how it is read and written; no conditions but those that each theorem names. -/
import Derived.Test.YtglliiijeadhcaaKe
import Derived.Maps.AppendAt
import Derived.Deep.AppendLies
import Derived.OwnWalk
import Derived.Laws.OwnMore
import Derived.Deep.Draws
namespace Go.Proofs.Ytglliiijeadhcaa
open Go.RowKit
set_option linter.unusedVariables false

theorem pts_len : ∀ l : List Pt, (pts l).length = l.length * 7
  | [] => rfl
  | x :: l => by simp only [pts, List.length_cons, pts_len l]; omega
theorem pts_get : ∀ (l : List Pt) (j i : Nat) (h : j < l.length), i < 7 → (pts l)[j * 7 + i]? = some ((l[j]).cell i)
  | [], j, i, h, _ => by simp at h
  | x :: l, 0, i, h, hi => by
    match i, hi with
    | 0, _ | 1, _ | 2, _ | 3, _ | 4, _ | 5, _ | 6, _ => rfl
  | x :: l, j + 1, i, h, hi => by
    have := pts_get l j i (by simpa using h) hi
    rw [show (j + 1) * 7 + i = j * 7 + i + 1 + 1 + 1 + 1 + 1 + 1 + 1 by omega]
    simp only [pts, List.getElem?_cons_succ, List.getElem_cons_succ]
    exact this
theorem pts_one (x : Pt) : ∀ u ∈ pts [x], u.oneCell' = true := by
  intro u hu
  simp only [pts, List.mem_cons, List.not_mem_nil, or_false] at hu
  rcases hu with rfl | rfl | rfl | rfl | rfl | rfl | rfl <;> rfl
theorem pts_cells : ∀ (l : List Pt), ∀ u ∈ pts l, u.oneCell' = true
  | [], u, h => by cases h
  | x :: l, u, h => by
    rw [show x :: l = [x] ++ l from rfl, pts_append] at h
    rcases List.mem_append.1 h with h | h
    · exact pts_one x u h
    · exact pts_cells l u h
theorem pts_take : ∀ (l : List Pt) (m : Nat), (pts l).take (m * 7) = pts (l.take m)
  | [], m => by simp [pts]
  | x :: l, 0 => by simp [pts]
  | x :: l, m + 1 => by
    rw [show (m + 1) * 7 = m * 7 + 1 + 1 + 1 + 1 + 1 + 1 + 1 by omega, List.take_succ_cons]
    simp only [pts, List.take_succ_cons, pts_take l m]
theorem pts_drop : ∀ (l : List Pt) (m : Nat), (pts l).drop (m * 7) = pts (l.drop m)
  | [], m => by simp [pts]
  | x :: l, 0 => by simp [pts]
  | x :: l, m + 1 => by
    rw [show (m + 1) * 7 = m * 7 + 1 + 1 + 1 + 1 + 1 + 1 + 1 by omega, List.drop_succ_cons]
    simp only [pts, List.drop_succ_cons, pts_drop l m]

/-- blocks of other types are kept -/
structure KeepR (B : Nat) (w w' : World) : Prop where
  b : Below B w w'
  k : ∀ i t cs, Blk w i t cs → t ≠ 58 → t ≠ 63 → Blk w' i t cs
theorem KeepR.refl (B : Nat) (w : World) : KeepR B w w := ⟨Below.refl _ _, fun _ _ _ h _ _ => h⟩
theorem KeepR.trans {B : Nat} {a b c : World} (h : KeepR B a b) (k : KeepR B b c) : KeepR B a c := ⟨h.b.trans k.b, fun i t cs hb h1 h2 => k.k i t cs (h.k i t cs hb h1 h2) h1 h2⟩
theorem KeepR.drew {B : Nat} {a w : World} (h : KeepR B a w) : KeepR B a w.drew := ⟨h.b.drew, fun i t cs hb h1 h2 => (h.k i t cs hb h1 h2).drew⟩
theorem KeepR.drewN {B : Nat} {a w : World} (h : KeepR B a w) (n : Nat) : KeepR B a (w.drewN n) := ⟨⟨h.b.os, h.b.tape, h.b.output, h.b.size, h.b.block⟩, fun i t cs hb h1 h2 => ⟨(h.k i t cs hb h1 h2).out⟩⟩
theorem KeepR.alloc {B : Nat} {a w : World} (h : KeepR B a w) (hB : B ≤ w.heap.size) (o : Obj) : KeepR B a (w.alloc o) := ⟨h.b.alloc hB o, fun i t cs hb h1 h2 => (h.k i t cs hb h1 h2).alloc o⟩
theorem Blk.ne_ {w : World} {g g' : Nat} {t t' : TypeId} {cs cs' : Array Value} (h : Blk w g t cs) (h' : Blk w g' t' cs') (hne : t ≠ t') : g ≠ g' := by
  rintro rfl
  have := h.out
  rw [h'.out] at this
  injection this with this
  injection this with _ ht
  exact hne ht.symm
theorem KeepR.set {B : Nat} {a w : World} (h : KeepR B a w) {g : Nat} {t : TypeId} {cs : Array Value} (hg : Blk w g t cs) (ht : t = 58 ∨ t = 63) (hB : B ≤ g) (o : Nat) (u : Value) : KeepR B a (w.setCell ⟨g, o, none⟩ u) :=
  ⟨h.b.setCell hB u, fun i t' cs' hb h1 h2 => by
    have hi := h.k i t' cs' hb h1 h2
    exact hi.far (Blk.ne_ hi hg (by rcases ht with rfl | rfl <;> assumption)) u⟩
theorem own_ne {w : World} {base : Nat} {e : TypeId} {size n g : Nat} {t : TypeId} {cs : Array Value} {v : Value} {xs : List Value} (h : w.ownsRow base e size v n xs) (hg : Blk w g t cs) (hne : t ≠ e) : v.ownBlock ≠ some g := by
  rcases h.2 with ⟨rfl, _⟩ | ⟨g', cap, cur, rfl, _, hh, _⟩
  · simp [Value.ownBlock]
  · intro he
    have : g' = g := by simpa [Value.ownBlock] using he
    subst this
    exact Blk.ne_ hg ⟨hh⟩ hne rfl
theorem Blk.grown {w w' : World} {g : Nat} {t : TypeId} {cs : Array Value} {row : Option Nat} (h : Blk w g t cs) (hb : w.grownBy w' row) (hg : row ≠ some g) : Blk w' g t cs := ⟨(hb.block g h.lt (fun e => hg e.symm)).trans h.out⟩
theorem KeepR.grown {B : Nat} {a w w' : World} (h : KeepR B a w) {n : Nat} {v : Value} {xs : List Value} (hown : w.ownsRow B 63 7 v n xs) (hg : w.grownBy w' v.ownBlock) (hB : B ≤ w.heap.size) : KeepR B a w' :=
  ⟨h.b.grown hg hB (fun k hk => (hown.lt k hk).1), fun i t cs hb h1 h2 => by
    have hi := h.k i t cs hb h1 h2
    exact hi.grown hg (own_ne hown hi h2)⟩

/-- The reference's table. -/
structure RT (w : World) (B h : Nat) (tr ba ke ho : Int) (l : List Pt) : Prop where
  has : ∃ A c, Blk w h 58 #[.int .i64 tr, .int .u64 ba, .int .u64 ke, .int .u64 ho, .slice A l.length c] ∧ w.ownsRow B 63 7 (.slice A l.length c) l.length (pts l)
  hB : B ≤ h
section
variable {w w' : World} {B h : Nat} {tr ba ke ho : Int} {l : List Pt}
theorem RT.drewN (R : RT w B h tr ba ke ho l) (n : Nat) : RT (w.drewN n) B h tr ba ke ho l := by
  obtain ⟨A, c, hb, ho⟩ := R.has
  exact ⟨⟨A, c, ⟨hb.out⟩, ho⟩, R.hB⟩
theorem RT.drew (R : RT w B h tr ba ke ho l) : RT w.drew B h tr ba ke ho l := by
  obtain ⟨A, c, hb, ho⟩ := R.has
  exact ⟨⟨A, c, ⟨hb.out⟩, ho⟩, R.hB⟩
theorem RT.alloc (R : RT w B h tr ba ke ho l) (o : Obj) : RT (w.alloc o) B h tr ba ke ho l := by
  obtain ⟨A, c, hb, ho⟩ := R.has
  exact ⟨⟨A, c, hb.alloc o, ho.alloc o⟩, R.hB⟩
/-- what turns no block of types 58 and 63 keeps it -/
theorem own_keep {e : TypeId} {size n : Nat} {v : Value} {xs : List Value} {row : Option Nat} (ho : w.ownsRow B e size v n xs) (hg : w.grownBy w' row) (hr : ∀ i, row = some i → ∃ t cs, Blk w i t cs ∧ t ≠ e) : w'.ownsRow B e size v n xs := by
  obtain ⟨h1, h2⟩ := ho
  refine ⟨h1, ?_⟩
  rcases h2 with h2 | ⟨g', cap, cur, rfl, hb, hh, r⟩
  · exact .inl h2
  · refine .inr ⟨g', cap, cur, rfl, hb, ?_, r⟩
    have hG : Blk w g' e cur := ⟨hh⟩
    exact (hG.grown hg (fun q => by obtain ⟨t, cs, q1, q2⟩ := hr g' q; exact Blk.ne_ q1 hG q2 rfl)).out
theorem RT.grown {row : Option Nat} (R : RT w B h tr ba ke ho l) (hg : w.grownBy w' row) (hr : ∀ i, row = some i → ∃ t cs, Blk w i t cs ∧ t ≠ 58 ∧ t ≠ 63) : RT w' B h tr ba ke ho l := by
  obtain ⟨A, c, hb, ho⟩ := R.has
  refine ⟨⟨A, c, hb.grown hg (fun e => ?_), own_keep ho hg (fun i hi => ?_)⟩, R.hB⟩
  · obtain ⟨t, cs, h1, h2, _⟩ := hr h e
    exact Blk.ne_ h1 hb h2 rfl
  · obtain ⟨t, cs, h1, _, h3⟩ := hr i hi
    exact ⟨t, cs, h1, h3⟩
/-- the row, where it has a path j -/
theorem own_at {A : Option Addr} {c n : Nat} (ho : w.ownsRow B 63 7 (.slice A n c) l.length (pts l)) {j : Nat} (hj : j < l.length) :
    ∃ r cur, A = some ⟨r, 0, none⟩ ∧ B ≤ r ∧ Blk w r 63 cur ∧ ∀ i, i < 7 → cur[j * 7 + i]? = some ((l[j]).cell i) := by
  rcases ho.2 with ⟨_, h2⟩ | ⟨g', cap, cur, hv, hb, hh, h1, h2, h3, ht⟩
  · omega
  · refine ⟨g', cur, by injection hv, hb, ⟨hh⟩, fun i hi => ?_⟩
    have hp := pts_get l j i hj hi
    rw [← ht, List.getElem?_take_of_lt (by omega)] at hp
    simpa using hp
/-- a store of a field of path j -/
theorem own_set {A : Option Addr} {c n r : Nat} (ho : w.ownsRow B 63 7 (.slice A n c) l.length (pts l)) {j i : Nat} (hj : j < l.length) (hi : i < 7) (hA : A = some ⟨r, 0, none⟩) (x : Pt) (u : Value)
    (hu : x.cell i = u) (hx : ∀ q, q < 7 → q ≠ i → x.cell q = (l[j]).cell q) : (w.setCell ⟨r, j * 7 + i, none⟩ u).ownsRow B 63 7 (.slice A n c) (l.set j x).length (pts (l.set j x)) := by
  subst hA
  rcases ho.2 with ⟨_, h2⟩ | ⟨g', cap, cur, hv, hb, hh, h1, h2, h3, ht⟩
  · omega
  · injection hv with hv hn hc
    injection hv with hv
    injection hv with hv
    subst hv
    subst hn
    subst hc
    refine ⟨pts_len _, .inr ⟨r, c, cur.setIfInBounds (j * 7 + i) u, by rw [List.length_set], hb, ?_, by simpa using h1, h2, by simpa using h3, ?_⟩⟩
    · simp [World.setCell, Array.getElem?_modify, hh]
    · apply List.ext_getElem?
      intro m
      have hpl := pts_len (l.set j x)
      rw [List.length_set] at hpl ⊢
      by_cases hm : m < l.length * 7
      · rw [List.getElem?_take_of_lt hm]
        obtain ⟨k, q, hq, rfl⟩ : ∃ k q, q < 7 ∧ m = k * 7 + q := ⟨m / 7, m % 7, by omega, by omega⟩
        have hk : k < l.length := by omega
        rw [pts_get (l.set j x) k q (by simpa using hk) hq]
        have hold := pts_get l k q hk hq
        rw [← ht, List.getElem?_take_of_lt hm] at hold
        have hold' : cur[k * 7 + q]? = some ((l[k]).cell q) := by simpa using hold
        rw [Array.getElem?_toList]
        by_cases he : j * 7 + i = k * 7 + q
        · have e1 : k = j := by omega
          have e2 : q = i := by omega
          subst e1; subst e2
          rw [Array.getElem?_setIfInBounds_self_of_lt (by omega), List.getElem_set_self, hu]
        · rw [Array.getElem?_setIfInBounds_ne he, hold']
          by_cases e1 : k = j
          · subst e1
            rw [List.getElem_set_self, hx q hq (by omega)]
          · rw [List.getElem_set_ne (fun e => e1 e.symm)]
      · rw [List.getElem?_eq_none (by rw [List.length_take]; omega), List.getElem?_eq_none (by omega)]
end
end Go.Proofs.Ytglliiijeadhcaa
