/- An argument that is a slice of deeds, read as data, lies in memory as the walk of PathPlays wants it; no conditions but those that each theorem names. -/
import Derived.Test.YtglliiijeadhcaaPplays1
import Derived.Deep.Slices
import Derived.ProofKit
import Derived.OpenShut
namespace Go.Proofs.Ytglliiijeadhcaa
open Go.ChangeShapes Go.WideShapes Go.RowKit Go.Deep
set_option linter.unusedVariables false

theorem cells37 : Try.prog.cellsOf 37 = 6 := by kernel_rfl
theorem cells35 : Try.prog.cellsOf 35 = 2 := by kernel_rfl
theorem cells1 : Try.prog.cellsOf 5 = 1 ∧ Try.prog.cellsOf 3 = 1 ∧ Try.prog.cellsOf 22 = 1 ∧ Try.prog.cellsOf 4 = 1 ∧ Try.prog.cellsOf 32 = 1 ∧ Try.prog.cellsOf 33 = 1 := ⟨by kernel_rfl, by kernel_rfl, by kernel_rfl, by kernel_rfl, by kernel_rfl, by kernel_rfl⟩
theorem fields37 : ∃ f0 f1 f2 f3 f4 : Field, Try.prog.underlying 37 = some (.struct #[f0, f1, f2, f3, f4]) ∧ f0.type = 5 ∧ f0.offset = 0 ∧ f1.type = 3 ∧ f1.offset = 1 ∧ f2.type = 35 ∧ f2.offset = 2 ∧ f3.type = 22 ∧ f3.offset = 4 ∧ f4.type = 4 ∧ f4.offset = 5 := ⟨_, _, _, _, _, Try.underlying37, rfl, rfl, rfl, rfl, rfl, rfl, rfl, rfl, rfl, rfl⟩
theorem fields35 : ∃ f0 f1 : Field, Try.prog.underlying 35 = some (.struct #[f0, f1]) ∧ f0.type = 32 ∧ f0.offset = 0 ∧ f1.type = 33 ∧ f1.offset = 1 := ⟨_, _, Try.underlying35, rfl, rfl, rfl, rfl⟩

section
variable {H : Type} {enc : TypeId × Value → H} {w : World} {base : Nat} {sp : Nat → Bool} {held : Bool}
theorem six_of {l : List Value} (h : l.length = 6) : ∃ a b c d e f, l = [a, b, c, d, e, f] := by
  match l, h with
  | [a, b, c, d, e, f], _ => exact ⟨a, b, c, d, e, f, rfl⟩
theorem deed_of {n : Nat} {cs : List Value} {x : DataW H × List MemPlace} (h : DataW.trod enc Try.prog w base sp held n 37 cs = some x) :
    ∃ d : Deed, d.ok ∧ cs = [.int .u8 d.k, .int .i64 d.p, .int .u32 d.i, .int .u16 d.q, .int .u64 d.n, .bool d.r] := by
  obtain ⟨f0, f1, f2, f3, f4, hu, t0, o0, t1, o1, t2, o2, t3, o3, t4, o4⟩ := fields37
  obtain ⟨k5, k3, k22, k4, k32, k33⟩ := cells1
  obtain ⟨xs, m, hm, hx, hl, hxl, hf⟩ := DataW.trod_struct hu h
  rw [cells37] at hl
  obtain ⟨a, b, c, d, e, f, rfl⟩ := six_of hl
  have hxl : xs.length = 5 := hxl
  have g0 := hf 0 f0 rfl
  have g1 := hf 1 f1 rfl
  have g2 := hf 2 f2 rfl
  have g3 := hf 3 f3 rfl
  have g4 := hf 4 f4 rfl
  rw [t0, o0, k5, List.getElem?_eq_getElem (by omega)] at g0
  rw [t1, o1, k3, List.getElem?_eq_getElem (by omega)] at g1
  rw [t2, o2, cells35, List.getElem?_eq_getElem (by omega)] at g2
  rw [t3, o3, k22, List.getElem?_eq_getElem (by omega)] at g3
  rw [t4, o4, k4, List.getElem?_eq_getElem (by omega)] at g4
  obtain ⟨n0, e0, _, w0⟩ := DataW.trod_int Try.underlying5 g0
  obtain ⟨n1, e1, _, w1⟩ := DataW.trod_int Try.underlying3 g1
  obtain ⟨n3, e3, _, w3⟩ := DataW.trod_int Try.underlying22 g3
  obtain ⟨r4, e4, _⟩ := DataW.trod_bool Try.underlying4 g4
  obtain ⟨h0, h1, hu2, u0, p0, u1, p1⟩ := fields35
  obtain ⟨ys, m2, hm2, hy, hl2, hyl, hf2⟩ := DataW.trod_struct hu2 g2
  have hyl : ys.length = 2 := hyl
  have q0 := hf2 0 h0 rfl
  have q1 := hf2 1 h1 rfl
  rw [u0, p0, k32, List.getElem?_eq_getElem (by omega)] at q0
  rw [u1, p1, k33, List.getElem?_eq_getElem (by omega)] at q1
  obtain ⟨n5, e5, _, w5⟩ := DataW.trod_int Try.underlying32 q0
  obtain ⟨n6, e6, _, w6⟩ := DataW.trod_int Try.underlying33 q1
  simp at e0 e1 e3 e4 e5 e6
  subst e0 e1 e3 e4 e5 e6
  exact ⟨⟨n0, n1, n5, n6, n3, r4⟩, ⟨(bounds_u8 w0).1, (bounds_u8 w0).2, (bounds_u64 w3).1, (bounds_u32 w5).1⟩, rfl⟩
theorem cell_lt {a : Addr} {v : Value} (h : w.cell? a = some v) : a.block < w.heap.size := by
  rcases Nat.lt_or_ge a.block w.heap.size with hlt | hge
  · exact hlt
  · unfold World.cell? at h
    rw [Array.getElem?_eq_none hge] at h
    cases h
theorem deeds_of {d : DataW H} {p : List MemPlace} {v : Value} (hv : ∃ a len cap, v = .slice a len cap) (h : DataW.Trod enc Try.prog w 0 sp held 23 v d p) : ∃ A len c, v = .slice A len c ∧ len ≤ c ∧ len ≤ maxLen ∧ Deeds w A len := by
  obtain ⟨A, len, c, rfl⟩ := hv
  obtain ⟨fuel, h⟩ := h
  have h : DataW.trod enc Try.prog w 0 sp held fuel 23 [.slice A len c] = some (d, p) := h
  rcases open_slice Try.underlying23 h with ⟨h0, _⟩ | ⟨a, len', cap, m, n, D, Pl, h0, hb, hl, hm, hmm, hx, hi⟩
  · injection h0 with h0 _
    injection h0 with h1 h2 h3
    subst h1 h2 h3
    exact ⟨none, 0, 0, rfl, by omega, by unfold maxLen; omega, fun i hi => by omega⟩
  · injection h0 with h0 _
    injection h0 with h1 h2 h3
    subst h1 h2 h3
    refine ⟨some a, len, c, rfl, hl, Nat.le_trans hl hm, fun i hil => ?_⟩
    obtain ⟨cs', h1, h2⟩ := hi i (by rw [hmm]; split <;> omega)
    obtain ⟨q, hq, rfl⟩ := deed_of h2
    rw [cells37] at h1
    obtain ⟨_, _, hc⟩ := World.cells?_some h1
    have z0 := hi 0 (by rw [hmm]; split <;> omega)
    obtain ⟨ds', y1, y2⟩ := z0
    rw [cells37] at y1
    obtain ⟨_, hl6, hc0⟩ := World.cells?_some y1
    have hs0 := hc0 0 (by omega)
    rw [List.getElem?_eq_getElem (by omega)] at hs0
    obtain ⟨b, o, s⟩ := a
    have hsp : s = none := by simpa [Addr.add] using World.cell?_spot hs0
    subst hsp
    have ad : ∀ j, (((⟨b, o, none⟩ : Addr).add (i * 6)).add j) = ⟨b, o + i * 6 + j, none⟩ := fun j => by rw [add_at, add_at]
    have g := fun j hj => hc j hj
    simp only [ad] at g
    exact ⟨b, o, q, rfl, cell_lt (a := ⟨b, o + i * 6 + 0, none⟩) (g 0 (by omega)), hq, g 0 (by omega), g 1 (by omega), g 2 (by omega), g 3 (by omega), g 4 (by omega), g 5 (by omega)⟩
end
end Go.Proofs.Ytglliiijeadhcaa
