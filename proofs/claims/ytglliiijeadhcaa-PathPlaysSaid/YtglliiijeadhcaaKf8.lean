/- The reference's Due in one word for all its cases; a path is the reference's; no conditions but those that each theorem names. -/
import Derived.Test.YtglliiijeadhcaaKf7
import Derived.Deep.RegionHeld3
namespace Go.Proofs.Ytglliiijeadhcaa
open Go.RowKit
set_option linter.unusedVariables false
variable {w w' : World} {B h : Nat} {tr ba ke ho : Int} {F : Nat → Pt}

set_option maxHeartbeats 400000 in
theorem rdue_late (n : Int) (v : Value) (w : World) (h : 4611686018427387904 < n) : Calls Try.prog 22 #[v, .int .u64 n] w fun e w' => e = .returned (.slice none 0 0) ∧ w = w' := by
  go_enter Try.func22, Try.ntmps22
  go_wp2
  go_ret
  exact ⟨rfl, rfl⟩
theorem lst_due (tr ba ke ho n : Int) (F : Nat → Pt) : lst (dueF tr ba ke ho n F 33) = (lst F).map (fun x => (stepF tr ba ke ho n x).1) := by
  rw [lst_eq, lst_eq]; exact dueF_all tr ba ke ho n F 33 (Nat.le_refl _)
theorem lst_c (W : WF tr F) : ∀ x, x ∈ lst F → 0 ≤ x.c ∧ x.c ≤ tr := by
  rw [lst_eq]
  intro x hx
  obtain ⟨i, hi, rfl, _⟩ := allL_mem 33 hx
  exact W.c i hi
theorem rgo_any (N : Num tr ba ke ho) (W : WF tr F) (n : Int) (w : World) (R : RT w B h tr ba ke ho (lst F)) (h0 : 0 ≤ n) :
    Calls Try.prog 22 #[.pointer (some ⟨h, 0, none⟩), .int .u64 n] w fun e w' => ∃ v, e = .returned v ∧ RT w' B h tr ba ke ho (lst (goF tr ba ke ho F n)) ∧ w'.ownsRow w.heap.size 53 2 v (goL tr ba ke ho F n).length (sends (goL tr ba ke ho F n)) ∧ KeepR B w w' := by
  unfold goF goL
  by_cases hn : 4611686018427387904 < n
  · rw [if_pos hn, if_pos hn]
    refine (rdue_late n _ w hn).mono ?_
    rintro e w' ⟨rfl, rfl⟩
    exact ⟨_, rfl, R, ⟨rfl, .inl ⟨rfl, rfl⟩⟩, KeepR.refl _ _⟩
  · rw [if_neg hn, if_neg hn, ← lst_eq, lst_due]
    refine (rdue N n w (lst F) R (lst_len F) (lst_c W) h0 (by omega)).mono ?_
    rintro e w' ⟨v, rfl, D⟩
    have h1 := D.R
    have h2 := D.own
    rw [mix_all] at h1
    rw [List.take_length] at h2
    exact ⟨v, rfl, h1, h2, D.K⟩

set_option maxRecDepth 100000 in
set_option maxHeartbeats 2000000 in
theorem rsame (x : Pt) (w : World) : Calls Try.prog 24 #[x.val, x.val] w fun e w' => e = .returned (.bool true) ∧ Below w.heap.size w w' := by
  obtain ⟨a, b, c, d, e, f, k⟩ := x
  have qa : (a == a) = true := beq_self_eq_true a
  have qb : (b == b) = true := beq_self_eq_true b
  have qc : (c == c) = true := beq_self_eq_true c
  have qd : (d == d) = true := beq_self_eq_true d
  have qe : (e == e) = true := beq_self_eq_true e
  have qf : (f == f) = true := beq_self_eq_true f
  have qk : (k == k) = true := beq_self_eq_true k
  go_enter Try.func24, Try.ntmps24
  go_wp2_with fail
  refine wp_world (fun W => Blk W w.heap.size 61 #[.int .i64 a, .int .i64 b, .int .i64 c, .int .u32 d, .int .u16 e, .int .u64 f, .int .u64 k] ∧ Blk W (w.heap.size + 1) 63 #[.int .i64 a, .int .i64 b, .int .i64 c, .int .u32 d, .int .u16 e, .int .u64 f, .int .u64 k] ∧ Below w.heap.size w W) ⟨(Blk.new _ _ _).alloc _, (by have := Blk.new (w.alloc (.cells #[.int .i64 a, .int .i64 b, .int .i64 c, .int .u32 d, .int .u16 e, .int .u64 f, .int .u64 k] 61)) 63 #[.int .i64 a, .int .i64 b, .int .i64 c, .int .u32 d, .int .u16 e, .int .u64 f, .int .u64 k]; rwa [World.size_alloc] at this), ((Below.refl _ _).alloc (Nat.le_refl _) _).alloc (by simp) _⟩ ?_
  rintro W ⟨B1, B2, hb⟩
  go_region_held3 (fun w' => w'.cell? ⟨w.heap.size, 0, none⟩ = some (.int .i64 a) ∧ w'.cell? ⟨w.heap.size, 1, none⟩ = some (.int .i64 b) ∧ w'.cell? ⟨w.heap.size, 2, none⟩ = some (.int .i64 c) ∧ w'.cell? ⟨w.heap.size, 3, none⟩ = some (.int .u32 d) ∧ w'.cell? ⟨w.heap.size, 4, none⟩ = some (.int .u16 e) ∧ w'.cell? ⟨w.heap.size, 5, none⟩ = some (.int .u64 f) ∧ w'.cell? ⟨w.heap.size, 6, none⟩ = some (.int .u64 k) ∧
    w'.cell? ⟨w.heap.size + 1, 0, none⟩ = some (.int .i64 a) ∧ w'.cell? ⟨w.heap.size + 1, 1, none⟩ = some (.int .i64 b) ∧ w'.cell? ⟨w.heap.size + 1, 2, none⟩ = some (.int .i64 c) ∧ w'.cell? ⟨w.heap.size + 1, 3, none⟩ = some (.int .u32 d) ∧ w'.cell? ⟨w.heap.size + 1, 4, none⟩ = some (.int .u16 e) ∧ w'.cell? ⟨w.heap.size + 1, 5, none⟩ = some (.int .u64 f) ∧ w'.cell? ⟨w.heap.size + 1, 6, none⟩ = some (.int .u64 k))
    (first | exact ⟨B1.cell 0, B1.cell 1, B1.cell 2, B1.cell 3, B1.cell 4, B1.cell 5, B1.cell 6, B2.cell 0, B2.cell 1, B2.cell 2, B2.cell 3, B2.cell 4, B2.cell 5, B2.cell 6⟩ | exact ⟨C1.cell 0, C1.cell 1, C1.cell 2, C1.cell 3, C1.cell 4, C1.cell 5, C1.cell 6, C2.cell 0, C2.cell 1, C2.cell 2, C2.cell 3, C2.cell 4, C2.cell 5, C2.cell 6⟩)
    (first | (go_at_call 16; refine (rref d e _).mono ?_; rintro e1 w1 ⟨rfl, hb1⟩; have C1 := B1.drew.keep hb1; have C2 := B2.drew.keep hb1; have hbb := hb.drew.trans (hb1.mono hb.size)))
  go_wp2
  go_ret
  exact ⟨rfl, hbb⟩
end Go.Proofs.Ytglliiijeadhcaa
