/- What New of the package path answers at all numbers; no conditions but that the numbers are not below 0. -/
import Derived.Test.YtglliiijeadhcaaKd
namespace Go.Proofs.Ytglliiijeadhcaa
open Go.RowKit

def Rng (x : Int) : Prop := 1 ≤ x ∧ x ≤ 1000000
theorem new_any (tr ba ke ho : Int) (b0 : 0 ≤ ba) (k0 : 0 ≤ ke) (o0 : 0 ≤ ho) (w : World) : Calls Try.prog 10 #[.int .i64 tr, .int .u64 ba, .int .u64 ke, .int .u64 ho] w fun e w' => (∃ v er, e = .returned (.tuple #[v, .int .i64 er]) ∧
    (er = 0 ∧ Num tr ba ke ho ∨ er = 1 ∧ (tr < 1 ∨ 8 < tr) ∧ Rng ba ∧ Rng ke ∧ Rng ho ∨ er = 1 ∧ ¬ (Rng ba ∧ Rng ke ∧ Rng ho))) ∧ Below w.heap.size w w' := by
  unfold Rng
  by_cases ht : tr < 1 ∨ 8 < tr
  · refine (new_tries w ht).mono ?_
    rintro e w' ⟨rfl, rfl⟩
    by_cases hr : (1 ≤ ba ∧ ba ≤ 1000000) ∧ (1 ≤ ke ∧ ke ≤ 1000000) ∧ (1 ≤ ho ∧ ho ≤ 1000000)
    · exact ⟨⟨_, _, rfl, .inr (.inl ⟨rfl, ht, hr⟩)⟩, Below.refl _ _⟩
    · exact ⟨⟨_, _, rfl, .inr (.inr ⟨rfl, hr⟩)⟩, Below.refl _ _⟩
  · by_cases hz : ba = 0 ∨ ke = 0 ∨ ho = 0
    · refine (new_zero w (by omega) (by omega) b0 k0 o0 hz).mono ?_
      rintro e w' ⟨rfl, rfl⟩
      exact ⟨⟨_, _, rfl, .inr (.inr ⟨rfl, by omega⟩)⟩, Below.refl _ _⟩
    · by_cases hb : 1000000 < ba ∨ 1000000 < ke ∨ 1000000 < ho
      · refine (new_big w (by omega) (by omega) (by omega) (by omega) (by omega) hb).mono ?_
        rintro e w' ⟨rfl, rfl⟩
        exact ⟨⟨_, _, rfl, .inr (.inr ⟨rfl, by omega⟩)⟩, Below.refl _ _⟩
      · refine (new_ok ⟨by omega, by omega, by omega, by omega, by omega, by omega, by omega, by omega⟩ w).mono ?_
        rintro e w' ⟨rfl, hb, _⟩
        exact ⟨⟨_, _, rfl, .inl ⟨rfl, by omega, by omega, by omega, by omega, by omega, by omega, by omega, by omega⟩⟩, hb⟩
theorem wrong_step (p : Nat) (n : Int) : stepF 3 1 1 1 n ⟨p, 2, 0, 0, 0, n, 0⟩ = (⟨p, 2, 1, 0, 0, n + 1, 0⟩, 1) := by simp [stepF]

end Go.Proofs.Ytglliiijeadhcaa
