/- The reference's Want, Open, Heard, Lost, each in one word for all its cases; no conditions but those that each theorem names. -/
import Derived.Test.YtglliiijeadhcaaKf5
namespace Go.Proofs.Ytglliiijeadhcaa
open Go.RowKit
set_option linter.unusedVariables false
variable {w w' : World} {B h : Nat} {tr ba ke ho : Int} {F : Nat → Pt}

theorem RT.hb {l : List Pt} (R : RT w B h tr ba ke ho l) : B ≤ w.heap.size := by
  obtain ⟨A0, c0, len0, _, _, _, _, _, _, _, _, _, q, _⟩ := R.facts; exact q
/-- The list of a table's paths, under one closed name. -/
noncomputable def lst (F : Nat → Pt) : List Pt := Classical.choose (⟨allL F 33, rfl⟩ : ∃ l, l = allL F 33)
theorem lst_eq (F : Nat → Pt) : lst F = allL F 33 := Classical.choose_spec (⟨allL F 33, rfl⟩ : ∃ l, l = allL F 33)
theorem lst_len (F : Nat → Pt) : (lst F).length ≤ 33 := by rw [lst_eq]; exact allL33 F
theorem lst_at (W : WF tr F) {p : Nat} (hp : p < 33) {m : Nat} {there : Bool} (h : At (lst F) p m there) : m = (allL F p).length ∧ (there = true ↔ (F p).b ≠ 0) := by
  rw [lst_eq] at h; exact at_of W hp h
theorem lst_bad (W : WF tr F) {p : Int} (hp : p < 1 ∨ 32 < p) {m : Nat} {there : Bool} (h : At (lst F) p m there) : there = false := by
  rw [lst_eq] at h; exact at_bad W hp h
theorem lst_set (W : WF tr F) {k : Nat} (h2 : k ≤ 32) {x : Pt} (hb : x.b ≠ 0) (ha : x.a = k) : SetL (lst F) x (lst (upd F k x)) := by
  rw [lst_eq, lst_eq]; exact setL_of W h2 hb ha
theorem lst_there {p : Nat} (hp : p < 33) (hb : (F p).b ≠ 0) (x : Pt) (hx : x.b ≠ 0) : (lst F).set (allL F p).length x = lst (upd F p x) := by
  rw [lst_eq, lst_eq]; exact set_there hp hb x hx
theorem lst_lost {p : Nat} (hp : p < 33) (hb : (F p).b ≠ 0) : (lst F).take (allL F p).length ++ (lst F).drop ((allL F p).length + 1) = lst (upd F p Pt.zero) := by
  rw [lst_eq, lst_eq]; exact lost_there hp hb
theorem lst_get {p : Nat} (hp : p < 33) (hb : (F p).b ≠ 0) : ∃ h : (allL F p).length < (lst F).length, (lst F)[(allL F p).length] = F p := by
  obtain ⟨h, e⟩ := at_get (F := F) hp hb
  have h' : (allL F p).length < (lst F).length := by rw [lst_eq]; exact h
  refine ⟨h', ?_⟩
  have : (lst F)[(allL F p).length]? = some (F p) := by rw [lst_eq, List.getElem?_eq_getElem h, e]
  rw [List.getElem?_eq_getElem h'] at this
  exact Option.some.inj this
theorem rwant_any (W : WF tr F) (p n : Int) (w : World) (R : RT w B h tr ba ke ho (lst F)) :
    Calls Try.prog 13 #[.pointer (some ⟨h, 0, none⟩), .int .i64 p, .int .u64 n] w fun e w' => e = .returned (.int .i64 (wantE F p n)) ∧ RT w' B h tr ba ke ho (lst (wantF F p n)) ∧ KeepR B w w' := by
  unfold wantE wantF
  by_cases hb : Bad p n
  · rw [if_pos hb, if_pos hb]
    refine (rwant_bad p n _ w hb).mono ?_
    rintro e w' ⟨rfl, rfl⟩
    exact ⟨rfl, R, KeepR.refl _ _⟩
  · rw [if_neg hb, if_neg hb]
    obtain ⟨k, rfl⟩ := Int.eq_ofNat_of_zero_le (show 0 ≤ p by unfold Bad at hb; omega)
    simp only [Int.toNat_natCast]
    have hk : 1 ≤ k ∧ k ≤ 32 := by unfold Bad at hb; omega
    by_cases hf : (F k).b ≠ 0
    · rw [if_pos hf, if_pos hf]
      refine (rwant_old _ n w hb R (lst_len F) (fun m b hat => (lst_at W (by omega) hat).2.2 hf)).mono ?_
      rintro e w' ⟨rfl, q, rfl⟩
      exact ⟨rfl, R.drewN q, (KeepR.refl _ _).drewN q⟩
    · rw [if_neg hf, if_neg hf]
      exact rwant_new _ n w hb R (lst_len F) (fun m b hat => by
        cases b with
        | false => rfl
        | true => exact absurd ((lst_at W (by omega) hat).2.1 rfl) hf) (lst_set W hk.2 (show (2 : Int) ≠ 0 by decide) rfl)
theorem ropen_any (N : Num tr ba ke ho) (W : WF tr F) (p i q n : Int) (w : World) (R : RT w B h tr ba ke ho (lst F)) (h0 : 0 ≤ n) :
    Calls Try.prog 15 #[.pointer (some ⟨h, 0, none⟩), .int .i64 p, .agg #[.int .u32 i, .int .u16 q], .int .u64 n] w fun e w' => e = .returned (.int .i64 (openE p i q n)) ∧ RT w' B h tr ba ke ho (lst (openF ke ho F p i q n)) ∧ KeepR B w w' := by
  unfold openE openF
  by_cases hb : Bad p n
  · rw [if_pos hb, if_pos hb]
    refine (ropen_bad p i q n _ w hb).mono ?_
    rintro e w' ⟨rfl, hw⟩
    exact ⟨rfl, R.keep hw, (KeepR.refl _ _).keep hw R.hb⟩
  · rw [if_neg hb, if_neg hb]
    by_cases hn : noneB i q = true
    · rw [if_pos hn, if_pos hn]
      refine (ropen_none p i q n _ w hb hn).mono ?_
      rintro e w' ⟨rfl, hw⟩
      exact ⟨rfl, R.keep hw, (KeepR.refl _ _).keep hw R.hb⟩
    · rw [if_neg hn, if_neg hn]
      obtain ⟨k, rfl⟩ := Int.eq_ofNat_of_zero_le (show 0 ≤ p by unfold Bad at hb; omega)
      simp only [Int.toNat_natCast]
      have hk : 1 ≤ k ∧ k ≤ 32 := by unfold Bad at hb; omega
      exact ropen_ok N _ i q n w hb h0 (by simpa using hn) R (lst_len F) (lst_set W hk.2 (show (3 : Int) ≠ 0 by decide) rfl)
theorem rheard_any (N : Num tr ba ke ho) (W : WF tr F) (p i q n : Int) (w : World) (R : RT w B h tr ba ke ho (lst F)) (h0 : 0 ≤ n) :
    Calls Try.prog 18 #[.pointer (some ⟨h, 0, none⟩), .int .i64 p, .agg #[.int .u32 i, .int .u16 q], .int .u64 n] w fun e w' => e = .returned (.bool (heardB F p i q n)) ∧ RT w' B h tr ba ke ho (lst (heardF ho F p i q n)) ∧ KeepR B w w' := by
  unfold heardB heardF
  have fin : ∀ (e : Ending) (w' : World), (e = .returned (.bool false) ∧ Below w.heap.size w w') → e = .returned (.bool false) ∧ RT w' B h tr ba ke ho (lst F) ∧ KeepR B w w' := fun e w' ⟨h1, h2⟩ => ⟨h1, R.keep h2, (KeepR.refl _ _).keep h2 R.hb⟩
  by_cases hh : Hears F p i q n
  · rw [if_pos hh, decide_eq_true hh]
    obtain ⟨hb, h3, hd, he⟩ := hh
    obtain ⟨k, rfl⟩ := Int.eq_ofNat_of_zero_le (show 0 ≤ p by unfold Bad at hb; omega)
    simp only [Int.toNat_natCast] at *
    have hk : 1 ≤ k ∧ k ≤ 32 := by unfold Bad at hb; omega
    subst hd he
    have hf : (F k).b ≠ 0 := by omega
    obtain ⟨hlt, hget⟩ := lst_get (F := F) (p := k) (by omega) hf
    refine rheard_yes N _ n w hb h0 R (lst_len F) (F k) (fun m b hat => ?_) h3
    obtain ⟨rfl, hbb⟩ := lst_at W (by omega) hat
    exact ⟨hbb.2 hf, by rw [List.getElem?_eq_getElem hlt, hget], lst_there (by omega) hf _ hf⟩
  · rw [if_neg hh, decide_eq_false hh]
    by_cases hb : Bad p n
    · exact (rheard_bad p i q n w hb R (lst_len F)).mono fin
    · obtain ⟨k, rfl⟩ := Int.eq_ofNat_of_zero_le (show 0 ≤ p by unfold Bad at hb; omega)
      unfold Hears at hh
      simp only [Int.toNat_natCast] at hh
      have hk : 1 ≤ k ∧ k ≤ 32 := by unfold Bad at hb; omega
      by_cases hf : (F k).b ≠ 0
      · obtain ⟨hlt, hget⟩ := lst_get (F := F) (p := k) (by omega) hf
        refine (rheard_else _ i q n w hb R (lst_len F) (F k) (fun m b hat => ?_) ?_).mono fin
        · obtain ⟨rfl, hbb⟩ := lst_at W (by omega) hat
          exact ⟨hbb.2 hf, by rw [List.getElem?_eq_getElem hlt, hget]⟩
        · by_cases e1 : (F k).b = 3
          · by_cases e2 : (F k).d = i
            · exact .inr (.inr (fun e3 => hh ⟨hb, e1, e2, e3⟩))
            · exact .inr (.inl e2)
          · exact .inl e1
      · exact (rheard_none _ i q n w hb R (lst_len F) (fun m b hat => by
          cases b with
          | false => rfl
          | true => exact absurd ((lst_at W (by omega) hat).2.1 rfl) hf)).mono fin
theorem rlost_any (W : WF tr F) (p : Int) (w : World) (R : RT w B h tr ba ke ho (lst F)) :
    Calls Try.prog 20 #[.pointer (some ⟨h, 0, none⟩), .int .i64 p] w fun e w' => e = .returned (.bool (lostB F p)) ∧ RT w' B h tr ba ke ho (lst (lostF F p)) ∧ KeepR B w w' := by
  unfold lostB lostF
  have fin : ∀ (e : Ending) (w' : World), (e = .returned (.bool false) ∧ ∃ k, w' = w.drewN k) → e = .returned (.bool false) ∧ RT w' B h tr ba ke ho (lst F) ∧ KeepR B w w' := fun e w' ⟨h1, k, h2⟩ => by
    subst h2
    exact ⟨h1, R.drewN k, (KeepR.refl _ _).drewN k⟩
  by_cases hh : Loses F p
  · rw [if_pos hh, decide_eq_true hh]
    obtain ⟨h1, h2, hf⟩ := hh
    obtain ⟨k, rfl⟩ := Int.eq_ofNat_of_zero_le (show 0 ≤ p by omega)
    simp only [Int.toNat_natCast] at *
    refine rlost_yes _ w R (lst_len F) (fun m b hat => ?_)
    obtain ⟨rfl, hbb⟩ := lst_at W (by omega) hat
    exact ⟨hbb.2 hf, (lst_get (by omega) hf).1, lst_lost (by omega) hf⟩
  · rw [if_neg hh, decide_eq_false hh]
    by_cases hp : p < 1 ∨ 32 < p
    · exact (rlost_no _ w R (lst_len F) (fun m b hat => lst_bad W hp hat)).mono fin
    · obtain ⟨k, rfl⟩ := Int.eq_ofNat_of_zero_le (show 0 ≤ p by omega)
      unfold Loses at hh
      simp only [Int.toNat_natCast] at hh
      exact (rlost_no _ w R (lst_len F) (fun m b hat => by
        cases b with
        | false => rfl
        | true => exact absurd ⟨by omega, by omega, (lst_at W (by omega) hat).2.1 rfl⟩ hh)).mono fin
end Go.Proofs.Ytglliiijeadhcaa
