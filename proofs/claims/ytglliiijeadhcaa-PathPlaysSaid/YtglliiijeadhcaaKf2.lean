/- How a path of the reference table is written whole; no conditions but those that each theorem names. -/
import Derived.Test.YtglliiijeadhcaaKf1
namespace Go.Proofs.Ytglliiijeadhcaa
open Go.RowKit
set_option linter.unusedVariables false
variable {w w' : World} {B h : Nat} {tr ba ke ho : Int} {l : List Pt} {F : Nat → Pt}

theorem own_set7 {A : Option Addr} {c n r : Nat} (H : w.ownsRow B 63 7 (.slice A n c) l.length (pts l)) {j : Nat} (hj : j < l.length) (hA : A = some ⟨r, 0, none⟩) (x : Pt) :
    (((((((w.setCell ⟨r, j * 7, none⟩ (.int .i64 x.a)).setCell ⟨r, j * 7 + 1, none⟩ (.int .i64 x.b)).setCell ⟨r, j * 7 + 2, none⟩ (.int .i64 x.c)).setCell ⟨r, j * 7 + 3, none⟩ (.int .u32 x.d)).setCell ⟨r, j * 7 + 4, none⟩ (.int .u16 x.e)).setCell ⟨r, j * 7 + 5, none⟩ (.int .u64 x.f)).setCell ⟨r, j * 7 + 6, none⟩ (.int .u64 x.k)).ownsRow B 63 7 (.slice A n c) (l.set j x).length (pts (l.set j x)) := by
  have T0 := own_set H (i := 0) hj (by omega) hA { l[j] with a := x.a } (.int .i64 x.a) rfl (fun i hi hn => by match i, hi, hn with | 1, _, _ | 2, _, _ | 3, _, _ | 4, _, _ | 5, _, _ | 6, _, _ => rfl)
  have T1 := own_set T0 (i := 1) (j := j) (by simpa using hj) (by omega) hA { l[j] with a := x.a, b := x.b } (.int .i64 x.b) rfl (fun i hi hn => by rw [List.getElem_set_self]; match i, hi, hn with | 0, _, _ | 2, _, _ | 3, _, _ | 4, _, _ | 5, _, _ | 6, _, _ => rfl)
  rw [List.set_set] at T1
  have T2 := own_set T1 (i := 2) (j := j) (by simpa using hj) (by omega) hA { l[j] with a := x.a, b := x.b, c := x.c } (.int .i64 x.c) rfl (fun i hi hn => by rw [List.getElem_set_self]; match i, hi, hn with | 0, _, _ | 1, _, _ | 3, _, _ | 4, _, _ | 5, _, _ | 6, _, _ => rfl)
  rw [List.set_set] at T2
  have T3 := own_set T2 (i := 3) (j := j) (by simpa using hj) (by omega) hA { l[j] with a := x.a, b := x.b, c := x.c, d := x.d } (.int .u32 x.d) rfl (fun i hi hn => by rw [List.getElem_set_self]; match i, hi, hn with | 0, _, _ | 1, _, _ | 2, _, _ | 4, _, _ | 5, _, _ | 6, _, _ => rfl)
  rw [List.set_set] at T3
  have T4 := own_set T3 (i := 4) (j := j) (by simpa using hj) (by omega) hA { l[j] with a := x.a, b := x.b, c := x.c, d := x.d, e := x.e } (.int .u16 x.e) rfl (fun i hi hn => by rw [List.getElem_set_self]; match i, hi, hn with | 0, _, _ | 1, _, _ | 2, _, _ | 3, _, _ | 5, _, _ | 6, _, _ => rfl)
  rw [List.set_set] at T4
  have T5 := own_set T4 (i := 5) (j := j) (by simpa using hj) (by omega) hA { l[j] with a := x.a, b := x.b, c := x.c, d := x.d, e := x.e, f := x.f } (.int .u64 x.f) rfl (fun i hi hn => by rw [List.getElem_set_self]; match i, hi, hn with | 0, _, _ | 1, _, _ | 2, _, _ | 3, _, _ | 4, _, _ | 6, _, _ => rfl)
  rw [List.set_set] at T5
  have T6 := own_set T5 (i := 6) (j := j) (by simpa using hj) (by omega) hA x (.int .u64 x.k) rfl (fun i hi hn => by rw [List.getElem_set_self]; match i, hi, hn with | 0, _, _ | 1, _, _ | 2, _, _ | 3, _, _ | 4, _, _ | 5, _, _ => rfl | n + 6, hi, hn => exact absurd (show n + 6 = 6 by omega) hn)
  rw [List.set_set] at T6
  exact T6
/-- Path j of the reference's table is written whole. -/
theorem RT.put7 (R : RT w B h tr ba ke ho l) {r c : Nat} (hv : w.cell? ⟨h, 4, none⟩ = some (.slice (some ⟨r, 0, none⟩) l.length c)) {j : Nat} (hj : j < l.length) (x : Pt) :
    RT (((((((w.setCell ⟨r, j * 7, none⟩ (.int .i64 x.a)).setCell ⟨r, j * 7 + 1, none⟩ (.int .i64 x.b)).setCell ⟨r, j * 7 + 2, none⟩ (.int .i64 x.c)).setCell ⟨r, j * 7 + 3, none⟩ (.int .u32 x.d)).setCell ⟨r, j * 7 + 4, none⟩ (.int .u16 x.e)).setCell ⟨r, j * 7 + 5, none⟩ (.int .u64 x.f)).setCell ⟨r, j * 7 + 6, none⟩ (.int .u64 x.k)) B h tr ba ke ho (l.set j x) ∧
    KeepR B w (((((((w.setCell ⟨r, j * 7, none⟩ (.int .i64 x.a)).setCell ⟨r, j * 7 + 1, none⟩ (.int .i64 x.b)).setCell ⟨r, j * 7 + 2, none⟩ (.int .i64 x.c)).setCell ⟨r, j * 7 + 3, none⟩ (.int .u32 x.d)).setCell ⟨r, j * 7 + 4, none⟩ (.int .u16 x.e)).setCell ⟨r, j * 7 + 5, none⟩ (.int .u64 x.f)).setCell ⟨r, j * 7 + 6, none⟩ (.int .u64 x.k)) := by
  obtain ⟨A, c', hb, hown⟩ := R.has
  have e := hb.cell 4
  rw [hv] at e
  simp only [List.getElem?_toArray, List.getElem?_cons_succ, List.getElem?_cons_zero, Option.some.injEq] at e
  injection e with e1 e2 e3
  subst e1; subst e3
  obtain ⟨r', cur, hA, hB, hr, _⟩ := own_at hown hj
  injection hA with hA
  injection hA with hA
  subst hA
  have n1 : h ≠ r := Blk.ne_ hb hr (by decide)
  have far : ∀ {W : World} {i t cs} (o : Nat) (u : Value), Blk W i t cs → i ≠ r → Blk (W.setCell ⟨r, o, none⟩ u) i t cs := fun o u hq hne => hq.far (p := ⟨r, o, none⟩) hne u
  refine ⟨⟨⟨some ⟨r, 0, none⟩, c, ?_, ?_⟩, R.hB⟩, ?_⟩
  · rw [List.length_set]
    exact far _ _ (far _ _ (far _ _ (far _ _ (far _ _ (far _ _ (far _ _ hb n1) n1) n1) n1) n1) n1) n1
  · have := own_set7 hown hj rfl x
    rwa [show Value.slice (some ⟨r, 0, none⟩) l.length c = Value.slice (some ⟨r, 0, none⟩) (l.set j x).length c from by rw [List.length_set]] at this
  · have far2 : ∀ {W : World} (o : Nat) (u : Value), Below B w W → Below B w (W.setCell ⟨r, o, none⟩ u) := fun o u hq => hq.setCell (p := ⟨r, o, none⟩) hB u
    refine ⟨far2 _ _ (far2 _ _ (far2 _ _ (far2 _ _ (far2 _ _ (far2 _ _ (far2 _ _ (Below.refl B w))))))), fun i t cs hi h1 h2 => ?_⟩
    have ne := Blk.ne_ hi hr h2
    exact far _ _ (far _ _ (far _ _ (far _ _ (far _ _ (far _ _ (far _ _ hi ne) ne) ne) ne) ne) ne) ne
end Go.Proofs.Ytglliiijeadhcaa
