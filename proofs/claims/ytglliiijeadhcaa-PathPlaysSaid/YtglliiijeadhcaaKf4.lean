/- The reference's New, Want, Open, Heard, Lost; no conditions but those that each theorem names. -/
import Derived.Test.YtglliiijeadhcaaKf3
import Derived.StillTailTactics
namespace Go.Proofs.Ytglliiijeadhcaa
open Go.RowKit
set_option linter.unusedVariables false
variable {w w' : World} {B h : Nat} {tr ba ke ho : Int} {l l' : List Pt} {F : Nat → Pt}

theorem ret_c1 {P : Program} {fn : Func} {p : Tmp} {ty : TypeId} {R : Ending → World → Prop} {a : Act} {w : World} {g : Nat} {t : TypeId} {cs : Array Value} {d : TypeDesc} (h : fn.results = #[.cell p ty])
    (hp : a.tmps.getD p undef = .pointer (some ⟨g, 0, none⟩)) (hg : Blk w g t cs)
    (hu : P.underlying ty = some d) (hd : (match d with | .struct _ | .array _ _ => true | _ => false) = true) (hi : (P.info? ty).map (·.size) = some cs.size) (hde : a.defers = [])
    (hR : R (.returned (.agg cs)) w) : bodyPost P fn R .ret a w := by
  have hp' : a.tmps[p]?.getD undef = .pointer (some ⟨g, 0, none⟩) := by simpa using hp
  exact bodyPost_ret (v := .agg cs) (by simp [results, h, hp', asAddr, run_loadVar_row w g t ty cs (0, 0) d hg.out hu hd hi]) hde hR

set_option maxHeartbeats 1000000 in
theorem rref (i q : Int) (w : World) : Calls Try.prog 16 #[.agg #[.int .u32 i, .int .u16 q]] w fun e w' => e = .returned (.agg #[.int .u32 i, .int .u16 q]) ∧ Below w.heap.size w w' := by
  go_enter Try.func16, Try.ntmps16
  go_wp2
  have hB := Blk.new (w.alloc (.cells #[.int .u32 i, .int .u16 q] 35)) 42 #[.int .u32 i, .int .u16 q]
  rw [World.size_alloc] at hB
  exact ret_c1 rfl rfl hB Try.underlying42 rfl (by kernel_rfl) rfl ⟨rfl, ((Below.refl _ _).alloc (Nat.le_refl _) _).alloc (by simp) _⟩
set_option maxHeartbeats 1000000 in
theorem rnone (i p : Int) (w : World) : Calls Try.prog 31 #[.agg #[.int .u32 i, .int .u16 p]] w fun e w' => e = .returned (.bool (noneB i p)) ∧ Below w.heap.size w w' := by
  unfold noneB
  have hbw := Below.refl w.heap.size w
  by_cases h : i = 0
  · subst h
    go_enter Try.func31, Try.ntmps31
    go_wp2
    go_ret
    exact ⟨rfl, hbw.alloc (Nat.le_refl _) _⟩
  · have h' := ne_b h
    go_enter Try.func31, Try.ntmps31
    go_wp2
    go_ret
    exact ⟨by simp [h'], hbw.alloc (Nat.le_refl _) _⟩
theorem below_drewN' {B : Nat} {a w : World} (h : Below B a w) (n : Nat) : Below B a (w.drewN n) := ⟨h.os, h.tape, h.output, h.size, h.block⟩
def badB (p n : Int) : Bool := decide (Bad p n)
set_option maxHeartbeats 1000000 in
theorem rbad_t (p n : Int) (w : World) (hb : Bad p n) : Calls Try.prog 27 #[.int .i64 p, .int .u64 n] w fun e w' => e = .returned (.bool true) ∧ w' = w := by
  have HB := Lib.hid hb
  clear hb
  by_cases h1 : p < 1
  · go_enter Try.func27, Try.ntmps27
    go_wp2
    go_ret
    exact ⟨rfl, rfl⟩
  · by_cases h2 : 32 < p
    · go_enter Try.func27, Try.ntmps27
      go_wp2
      go_ret
      exact ⟨rfl, rfl⟩
    · have h3 : 4611686018427387904 < n := by have := HB.out; unfold Bad at this; omega
      have h4 : decide (p < 1) = false := decide_eq_false h1
      have h5 : decide (32 < p) = false := decide_eq_false h2
      go_enter Try.func27, Try.ntmps27
      go_wp2
      go_ret
      exact ⟨rfl, rfl⟩
set_option maxHeartbeats 1000000 in
theorem rbad_f (p n : Int) (w : World) (hb : ¬ Bad p n) : Calls Try.prog 27 #[.int .i64 p, .int .u64 n] w fun e w' => e = .returned (.bool false) ∧ w' = w := by
  unfold Bad at hb
  have h1 : ¬ p < 1 := by omega
  have h2 : ¬ 32 < p := by omega
  have h3 : ¬ 4611686018427387904 < n := by omega
  clear hb
  have h4 : decide (p < 1) = false := decide_eq_false h1
  have h5 : decide (32 < p) = false := decide_eq_false h2
  have h6 : decide (4611686018427387904 < n) = false := decide_eq_false h3
  go_enter Try.func27, Try.ntmps27
  go_wp2
  go_ret
  exact ⟨rfl, rfl⟩

set_option maxHeartbeats 1000000 in
theorem rwant_bad (p n : Int) (v : Value) (w : World) (hb : Bad p n) : Calls Try.prog 13 #[v, .int .i64 p, .int .u64 n] w fun e w' => e = .returned (.int .i64 1) ∧ w' = w := by
  go_enter Try.func13, Try.ntmps13
  go_wp2_with fail
  refine (rbad_t p n _ hb).mono ?_
  rintro e1 w1 ⟨rfl, rfl⟩
  go_wp2
  go_ret
  exact ⟨rfl, rfl⟩
set_option maxHeartbeats 1000000 in
theorem rwant_old (p n : Int) (w : World) (hb : ¬ Bad p n) (R : RT w B h tr ba ke ho l) (hl : l.length ≤ 33) (hA : ∀ m b, At l p m b → b = true) :
    Calls Try.prog 13 #[.pointer (some ⟨h, 0, none⟩), .int .i64 p, .int .u64 n] w fun e w' => e = .returned (.int .i64 6) ∧ ∃ k, w' = w.drewN k := by
  have HA := Lib.hid hA
  clear hA
  go_enter Try.func13, Try.ntmps13
  go_wp2_with fail
  refine (rbad_f p n _ hb).mono ?_
  rintro e1 w1 ⟨rfl, rfl⟩
  go_wp2_with fail
  refine (rfind p _ R hl).mono ?_
  rintro e1 w1 ⟨m, b, rfl, hat, k, rfl⟩
  obtain rfl := HA.out m b hat
  clear hat R HA
  go_wp2
  go_ret
  exact ⟨rfl, _, rfl⟩
set_option maxHeartbeats 1000000 in
theorem rwant_new (p n : Int) (w : World) (hb : ¬ Bad p n) (R : RT w B h tr ba ke ho l) (hl : l.length ≤ 33) (hA : ∀ m b, At l p m b → b = false) (hS : SetL l ⟨p, 2, 0, 0, 0, n, 0⟩ l') :
    Calls Try.prog 13 #[.pointer (some ⟨h, 0, none⟩), .int .i64 p, .int .u64 n] w fun e w' => e = .returned (.int .i64 0) ∧ RT w' B h tr ba ke ho l' ∧ KeepR B w w' := by
  have HA := Lib.hid hA
  clear hA
  go_enter Try.func13, Try.ntmps13
  go_wp2_with fail
  refine (rbad_f p n _ hb).mono ?_
  rintro e1 w1 ⟨rfl, rfl⟩
  go_wp2_with fail
  refine (rfind p _ R hl).mono ?_
  rintro e1 w1 ⟨m, b, rfl, hat, k, rfl⟩
  obtain rfl := HA.out m b hat
  clear hat HA
  go_wp2_with fail
  refine (rset_l ⟨p, 2, 0, 0, 0, n, 0⟩ l' hS hl _ (R.drewN k)).mono ?_
  rintro e2 w2 ⟨rfl, R2, K2⟩
  clear R hS
  go_wp2
  go_ret
  exact ⟨rfl, R2, ((KeepR.refl _ _).drewN k).trans K2⟩

set_option maxHeartbeats 1000000 in
theorem ropen_bad (p i q n : Int) (v : Value) (w : World) (hb : Bad p n) : Calls Try.prog 15 #[v, .int .i64 p, .agg #[.int .u32 i, .int .u16 q], .int .u64 n] w fun e w' => e = .returned (.int .i64 1) ∧ Below w.heap.size w w' := by
  have hbw := Below.refl w.heap.size w
  go_enter Try.func15, Try.ntmps15
  go_wp2_with fail
  refine (rnone i q _).mono ?_
  rintro e1 w1 ⟨rfl, hb1⟩
  replace hbw := (hbw.alloc (Nat.le_refl _) _).trans (hb1.mono (by simp))
  clear hb1
  go_wp2_with fail
  refine (rbad_t p n _ hb).mono ?_
  rintro e1 w1 ⟨rfl, rfl⟩
  go_wp2
  go_ret
  exact ⟨rfl, hbw⟩
set_option maxHeartbeats 1000000 in
theorem ropen_none (p i q n : Int) (v : Value) (w : World) (hb : ¬ Bad p n) (hn : noneB i q = true) : Calls Try.prog 15 #[v, .int .i64 p, .agg #[.int .u32 i, .int .u16 q], .int .u64 n] w fun e w' => e = .returned (.int .i64 1) ∧ Below w.heap.size w w' := by
  have hbw := Below.refl w.heap.size w
  go_enter Try.func15, Try.ntmps15
  go_wp2_with fail
  refine (rnone i q _).mono ?_
  rw [hn]
  rintro e1 w1 ⟨rfl, hb1⟩
  replace hbw := (hbw.alloc (Nat.le_refl _) _).trans (hb1.mono (by simp))
  clear hb1
  go_wp2_with fail
  refine (rbad_f p n _ hb).mono ?_
  rintro e1 w1 ⟨rfl, rfl⟩
  clear hn
  go_wp2
  go_ret
  exact ⟨rfl, hbw⟩
set_option maxRecDepth 100000 in
set_option maxHeartbeats 2000000 in
theorem ropen_ok (N : Num tr ba ke ho) (p i q n : Int) (w : World) (hb : ¬ Bad p n) (h0 : 0 ≤ n) (hn : noneB i q = false) (R : RT w B h tr ba ke ho l) (hl : l.length ≤ 33) (hS : SetL l ⟨p, 3, 0, i, q, n + ke, n + ho⟩ l') :
    Calls Try.prog 15 #[.pointer (some ⟨h, 0, none⟩), .int .i64 p, .agg #[.int .u32 i, .int .u16 q], .int .u64 n] w fun e w' => e = .returned (.int .i64 0) ∧ RT w' B h tr ba ke ho l' ∧ KeepR B w w' := by
  have n1 := N.k1; have n2 := N.k2; have n3 := N.o1; have n4 := N.o2
  have n5 : n ≤ 4611686018427387904 := by unfold Bad at hb; omega
  have hlh : h < w.heap.size := by obtain ⟨A0, c0, len0, _, _, _, _, _, _, _, _, q, _, _⟩ := R.facts; exact q
  have hBs : B ≤ w.heap.size := by obtain ⟨A0, c0, len0, _, _, _, _, _, _, _, _, _, q, _⟩ := R.facts; exact q
  go_enter Try.func15, Try.ntmps15
  go_wp2_with fail
  refine (rnone i q _).mono ?_
  rw [hn]
  rintro e1 w1 ⟨rfl, hb1⟩
  have hb2 : Below w.heap.size w w1 := ((Below.refl _ _).alloc (Nat.le_refl _) _).trans (hb1.mono (by simp))
  have R1 := R.keep hb2
  have K1 := (KeepR.refl B w).keep hb2 hBs
  have B1 := (Blk.new w 42 #[.int .u32 i, .int .u16 q]).keep hb1
  clear hb1 hn R
  obtain ⟨c1, f1, z1⟩ := B1.all
  obtain ⟨A, c, len, HL, hlc, d0, d1, d2, d3, d4, f2, z2, hB1, HR⟩ := R1.facts
  have nh1 : h ≠ w.heap.size := by omega
  have nh2 : w.heap.size ≠ h := by omega
  go_wp2_with fail
  refine (rbad_f p n _ hb).mono ?_
  rintro e1 w1 ⟨rfl, rfl⟩
  go_wp2_with fail
  go_still_tail 16, (by kernel_rfl)
  change wpList _ _ _ _ _ w1.drew
  go_wp2_with fail
  refine (rset_l ⟨p, 3, 0, i, q, n + ke, n + ho⟩ l' hS hl _ R1.drew).mono ?_
  rintro e2 w2 ⟨rfl, R2, K2⟩
  clear R1 hS d0 d1 d2 d3 d4 f2 z2 HR c1 f1 z1
  go_wp2
  go_ret
  exact ⟨rfl, R2, K1.drew.trans K2⟩

set_option maxHeartbeats 1000000 in
theorem rheard_bad (p i q n : Int) (w : World) (hb : Bad p n) (R : RT w B h tr ba ke ho l) (hl : l.length ≤ 33) :
    Calls Try.prog 18 #[.pointer (some ⟨h, 0, none⟩), .int .i64 p, .agg #[.int .u32 i, .int .u16 q], .int .u64 n] w fun e w' => e = .returned (.bool false) ∧ Below w.heap.size w w' := by
  go_enter Try.func18, Try.ntmps18
  go_wp2_with fail
  refine (rfind p _ (R.alloc _) hl).mono ?_
  rintro e1 w1 ⟨m, b, rfl, hat, k, hw⟩
  have hbw : Below w.heap.size w w1 := hw ▸ below_drewN' ((Below.refl _ _).alloc (Nat.le_refl _) _) k
  clear hw hat R
  go_wp2_with fail
  go_quiet ((go_at_call 27; exact Calls.quiet_of_same (rbad_t _ _ _ hb)))
  go_wp2
  go_ret
  exact ⟨rfl, below_drewN' hbw _⟩
set_option maxHeartbeats 1000000 in
theorem rheard_none (p i q n : Int) (w : World) (hb : ¬ Bad p n) (R : RT w B h tr ba ke ho l) (hl : l.length ≤ 33) (hA : ∀ m b, At l p m b → b = false) :
    Calls Try.prog 18 #[.pointer (some ⟨h, 0, none⟩), .int .i64 p, .agg #[.int .u32 i, .int .u16 q], .int .u64 n] w fun e w' => e = .returned (.bool false) ∧ Below w.heap.size w w' := by
  go_enter Try.func18, Try.ntmps18
  go_wp2_with fail
  refine (rfind p _ (R.alloc _) hl).mono ?_
  rintro e1 w1 ⟨m, b, rfl, hat, k, hw⟩
  have hbw : Below w.heap.size w w1 := hw ▸ below_drewN' ((Below.refl _ _).alloc (Nat.le_refl _) _) k
  obtain rfl := hA m b hat
  clear hw hat R hA
  go_wp2_with fail
  go_quiet ((go_at_call 27; exact Calls.quiet_of_same (rbad_f _ _ _ hb)))
  go_wp2
  go_ret
  exact ⟨rfl, below_drewN' hbw _⟩
set_option maxRecDepth 100000 in
set_option maxHeartbeats 1000000 in
theorem rheard_else (p i q n : Int) (w : World) (hb : ¬ Bad p n) (R : RT w B h tr ba ke ho l) (hl : l.length ≤ 33) (x : Pt) (hA : ∀ m b, At l p m b → b = true ∧ l[m]? = some x) (hx : x.b ≠ 3 ∨ x.d ≠ i ∨ x.e ≠ q) :
    Calls Try.prog 18 #[.pointer (some ⟨h, 0, none⟩), .int .i64 p, .agg #[.int .u32 i, .int .u16 q], .int .u64 n] w fun e w' => e = .returned (.bool false) ∧ Below w.heap.size w w' := by
  have HX := Lib.hid hx
  clear hx
  go_enter Try.func18, Try.ntmps18
  go_wp2_with fail
  refine (rfind p _ (R.alloc _) hl).mono ?_
  rintro e1 w1 ⟨m, b, rfl, hat, k, hw⟩
  have hbw : Below w.heap.size w w1 := hw ▸ below_drewN' ((Below.refl _ _).alloc (Nat.le_refl _) _) k
  have R1 : RT w1 B h tr ba ke ho l := hw ▸ (R.alloc _).drewN k
  have B1 : Blk w1 w.heap.size 42 #[.int .u32 i, .int .u16 q] := hw ▸ ⟨(Blk.new w 42 _).out⟩
  obtain ⟨rfl, hm⟩ := hA m b hat
  have hml := (List.getElem?_eq_some_iff.1 hm).1
  have HM := Lib.hid hm
  clear hw hat R hA hm
  obtain ⟨c1, f1, z1⟩ := B1.all
  obtain ⟨A, c, len, HL, hlc, d0, d1, d2, d3, d4, f2, z2, hB1, HR⟩ := R1.facts
  obtain ⟨r, y, rfl, hB, nhr, hy, ⟨y0, y1, y2, y3, y4, y5, y6⟩, f3, z3⟩ := HR.out m (by rw [← HL.out]; exact hml)
  obtain rfl : y = x := by have := hy.out; rw [HM.out] at this; exact (Option.some.inj this).symm
  rw [HL.out] at hml
  clear R1 B1 HR
  by_cases h3 : y.b = 3
  · rw [h3] at y1
    have H3 := Lib.hid h3
    clear h3
    by_cases hd : y.d = i
    · have he := ne_t (show y.e ≠ q from by have := HX.out; have := H3.out; omega)
      have he' := ne_b (show y.e ≠ q from by have := HX.out; have := H3.out; omega)
      subst hd
      go_wp2_with fail
      go_quiet ((go_at_call 27; exact Calls.quiet_of_same (rbad_f _ _ _ hb)))
      go_wp2
      go_ret
      exact ⟨rfl, below_drewN' hbw _⟩
    · have he := ne_t hd
      have he' := ne_b hd
      go_wp2_with fail
      go_quiet ((go_at_call 27; exact Calls.quiet_of_same (rbad_f _ _ _ hb)))
      go_wp2
      go_ret
      exact ⟨rfl, below_drewN' hbw _⟩
  · have h3' := ne_t h3
    clear h3
    go_wp2_with fail
    go_quiet ((go_at_call 27; exact Calls.quiet_of_same (rbad_f _ _ _ hb)))
    go_wp2
    go_ret
    exact ⟨rfl, below_drewN' hbw _⟩
end Go.Proofs.Ytglliiijeadhcaa
