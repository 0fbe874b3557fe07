/- The reference's Heard and Lost where they turn a path, its New; no conditions but those that each theorem names. -/
import Derived.Test.YtglliiijeadhcaaKf4
namespace Go.Proofs.Ytglliiijeadhcaa
open Go.RowKit
set_option linter.unusedVariables false
variable {w w' : World} {B h : Nat} {tr ba ke ho : Int} {l l' : List Pt} {F : Nat → Pt}

theorem RT.put1 (R : RT w B h tr ba ke ho l) {r c len : Nat} (hln : l.length = len) (hv : w.cell? ⟨h, 4, none⟩ = some (.slice (some ⟨r, 0, none⟩) len c)) {j i : Nat} (hj : j < l.length) (hi : i < 7) (x : Pt) (u : Value)
    (hu : x.cell i = u) (hx : ∀ q, q < 7 → q ≠ i → x.cell q = (l[j]).cell q) : RT (w.setCell ⟨r, j * 7 + i, none⟩ u) B h tr ba ke ho (l.set j x) ∧ KeepR B w (w.setCell ⟨r, j * 7 + i, none⟩ u) := by
  subst hln
  obtain ⟨A, c', hb, hown⟩ := R.has
  have e := hb.cell 4
  rw [hv] at e
  simp only [List.getElem?_toArray, List.getElem?_cons_succ, List.getElem?_cons_zero, Option.some.injEq] at e
  injection e with e1 e2 e3
  subst e1; subst e3
  obtain ⟨r', cur, hA, hB, hr, _⟩ := own_at hown hj
  injection hA with hA
  injection hA with hA
  subst hA
  have n1 : h ≠ r := Blk.ne_ hb hr (by decide)
  refine ⟨⟨⟨some ⟨r, 0, none⟩, c, ?_, ?_⟩, R.hB⟩, ?_⟩
  · rw [List.length_set]
    exact hb.far (p := ⟨r, _, none⟩) n1 _
  · have := own_set hown hj hi rfl x u hu hx
    rwa [show Value.slice (some ⟨r, 0, none⟩) l.length c = Value.slice (some ⟨r, 0, none⟩) (l.set j x).length c from by rw [List.length_set]] at this
  · exact (KeepR.refl B w).set hr (.inr rfl) hB _ _

set_option maxRecDepth 100000 in
set_option maxHeartbeats 1000000 in
theorem rheard_yes (N : Num tr ba ke ho) (p n : Int) (w : World) (hb : ¬ Bad p n) (h0 : 0 ≤ n) (R : RT w B h tr ba ke ho l) (hl : l.length ≤ 33) (x : Pt) (hA : ∀ m b, At l p m b → b = true ∧ l[m]? = some x ∧ l.set m { x with k := n + ho } = l') (h3 : x.b = 3) :
    Calls Try.prog 18 #[.pointer (some ⟨h, 0, none⟩), .int .i64 p, .agg #[.int .u32 x.d, .int .u16 x.e], .int .u64 n] w fun e w' => e = .returned (.bool true) ∧ RT w' B h tr ba ke ho l' ∧ KeepR B w w' := by
  have n3 := N.o1; have n4 := N.o2
  have n5 : n ≤ 4611686018427387904 := by unfold Bad at hb; omega
  have hlh : h < w.heap.size := by obtain ⟨A0, c0, len0, _, _, _, _, _, _, _, _, q, _, _⟩ := R.facts; exact q
  have hBs : B ≤ w.heap.size := by obtain ⟨A0, c0, len0, _, _, _, _, _, _, _, _, _, q, _⟩ := R.facts; exact q
  have H3 := Lib.hid h3
  clear h3
  go_enter Try.func18, Try.ntmps18
  go_wp2_with fail
  refine (rfind p _ (R.alloc _) hl).mono ?_
  rintro e1 w1 ⟨m, b, rfl, hat, k, hw⟩
  have K1 : KeepR B w w1 := hw ▸ ((KeepR.refl B w).alloc hBs _).drewN k
  have R1 : RT w1 B h tr ba ke ho l := hw ▸ (R.alloc _).drewN k
  have B1 : Blk w1 w.heap.size 42 #[.int .u32 x.d, .int .u16 x.e] := hw ▸ ⟨(Blk.new w 42 _).out⟩
  obtain ⟨rfl, hm, hset⟩ := hA m b hat
  obtain ⟨hml, hmx⟩ := List.getElem?_eq_some_iff.1 hm
  have HM := Lib.hid hm
  clear hw hat R hA hm
  obtain ⟨c1, f1, z1⟩ := B1.all
  obtain ⟨A, c, len, HL, hlc, d0, d1, d2, d3, d4, f2, z2, hB1, HR⟩ := R1.facts
  obtain ⟨r, y, rfl, hB, nhr, hy, ⟨y0, y1, y2, y3, y4, y5, y6⟩, f3, z3⟩ := HR.out m (by rw [← HL.out]; exact hml)
  obtain rfl : y = x := by have := hy.out; rw [HM.out] at this; exact (Option.some.inj this).symm
  have hP := R1.put1 (r := r) (c := c) HL.out d4 hml (i := 6) (by omega) { y with k := n + ho } (.int .u64 (n + ho)) rfl (fun q hq hn => by rw [hmx]; match q, hq, hn with | 0, _, _ | 1, _, _ | 2, _, _ | 3, _, _ | 4, _, _ | 5, _, _ => rfl | n + 6, hq, hn => exact absurd (show n + 6 = 6 by omega) hn)
  rw [hset] at hP
  have HP := Lib.hid hP
  clear hP hmx hset
  rw [HL.out] at hml
  rw [H3.out] at y1
  have q1 : (y.d == y.d) = true := beq_self_eq_true _
  have q2 : (y.e == y.e) = true := beq_self_eq_true _
  have nh1 : h ≠ w.heap.size := by omega
  clear R1 B1 HR
  go_wp2_with fail
  go_quiet ((go_at_call 27; exact Calls.quiet_of_same (rbad_f _ _ _ hb)))
  go_wp2
  go_region
  go_wp2
  go_ret
  exact ⟨rfl, (HP.out.1.drewN nq).drew, ((K1.trans HP.out.2).drewN nq).drew⟩

set_option maxRecDepth 100000 in
set_option maxHeartbeats 1000000 in
theorem rlost_no (p : Int) (w : World) (R : RT w B h tr ba ke ho l) (hl : l.length ≤ 33) (hA : ∀ m b, At l p m b → b = false) :
    Calls Try.prog 20 #[.pointer (some ⟨h, 0, none⟩), .int .i64 p] w fun e w' => e = .returned (.bool false) ∧ ∃ k, w' = w.drewN k := by
  go_enter Try.func20, Try.ntmps20
  go_wp2_with fail
  refine (rfind p _ R hl).mono ?_
  rintro e1 w1 ⟨m, b, rfl, hat, k, rfl⟩
  obtain rfl := hA m b hat
  clear hat R hA
  go_wp2
  go_ret
  exact ⟨rfl, _, rfl⟩

set_option maxRecDepth 100000 in
set_option maxHeartbeats 1000000 in
theorem rlost_yes (p : Int) (w : World) (R : RT w B h tr ba ke ho l) (hl : l.length ≤ 33) (hA : ∀ m b, At l p m b → b = true ∧ m < l.length ∧ l.take m ++ l.drop (m + 1) = l') :
    Calls Try.prog 20 #[.pointer (some ⟨h, 0, none⟩), .int .i64 p] w fun e w' => e = .returned (.bool true) ∧ RT w' B h tr ba ke ho l' ∧ KeepR B w w' := by
  have hBs : B ≤ w.heap.size := by obtain ⟨A0, c0, len0, _, _, _, _, _, _, _, _, _, q, _⟩ := R.facts; exact q
  obtain ⟨i0, hi, hz0, hz1, hz2⟩ := info_parts info63
  have Hi := Lib.hid hi
  have Hz0 := Lib.hid hz0
  have Hz1 := Lib.hid hz1
  have Hz2 := Lib.hid hz2
  clear hi hz0 hz1 hz2
  go_enter Try.func20, Try.ntmps20
  go_wp2_with fail
  refine (rfind p _ R hl).mono ?_
  rintro e1 w1 ⟨m, b, rfl, hat, k, hw⟩
  have K1 : KeepR B w w1 := hw ▸ (KeepR.refl B w).drewN k
  have R1 : RT w1 B h tr ba ke ho l := hw ▸ R.drewN k
  obtain ⟨rfl, hml, hset⟩ := hA m b hat
  have HS := Lib.hid hset
  clear hw hat R hA hset
  obtain ⟨A, c, len, HL, hlc, d0, d1, d2, d3, d4, f2, z2, hB1, HR⟩ := R1.facts
  obtain ⟨q1, q2, hown⟩ := R1.len (by rw [d4])
  have hs1 := Lib.hid (src_take hown (m := m) (by omega))
  rw [HL.out] at hml hl
  clear q1 q2 hown
  go_wp2_with (at_builtin; refine wpList_app rfl (.tmp 16) (.tmp 22) 56 rfl w1.heap.size 63 i0 (.agg #[.int .i64 0, .int .i64 0, .int .i64 0, .int .u32 0, .int .u16 0, .int .u64 0, .int .u64 0]) 7 48 Try.underlying56 Hi.out Hz0.out Hz1.out Hz2.out rfl (by decide) (.slice none 0 0) 0 [] rfl ⟨rfl, .inl ⟨rfl, rfl⟩⟩ A m c (pts (l.take m)) rfl hs1.out (pts_cells _) (by unfold maxLen; omega) (by omega) (Nat.le_refl _) ?_)
  intro v2 w2 hown2 hg2
  try simp only [Nat.zero_add, List.nil_append] at hown2
  have hb2 : Below w1.heap.size w1 w2 := (Below.refl _ _).grown hg2 (Nat.le_refl _) (fun k e => by cases e)
  clear hg2 d0 d1 d2 d3 d4 f2 z2 HR hs1
  have R3 := R1.keep hb2
  obtain ⟨A3, c3, len3, HL3, hlc3, d0, d1, d2, d3, d4, f2, z2, hB3, HR⟩ := R3.facts
  obtain rfl : len = len3 := HL.out.symm.trans HL3.out
  obtain ⟨q1, q2, hown⟩ := R3.len (by rw [d4])
  have hs3 := src_drop hown (m := m + 1) (by rw [HL.out]; exact hml) q2
  rw [HL.out] at hs3
  have Hs3 := Lib.hid hs3
  clear q1 q2 hown HR hs3
  go_wp2_with (at_builtin; refine wpList_app rfl (.tmp 25) (.tmp 32) 56 rfl w1.heap.size 63 i0 (.agg #[.int .i64 0, .int .i64 0, .int .i64 0, .int .u32 0, .int .u16 0, .int .u64 0, .int .u64 0]) 7 48 Try.underlying56 Hi.out Hz0.out Hz1.out Hz2.out rfl (by decide) v2 m (pts (l.take m)) rfl hown2 _ (len - (m + 1)) (c3 - (m + 1)) (pts (l.drop (m + 1))) rfl Hs3.out (pts_cells _) (by unfold maxLen; omega) (by omega) hb2.size ?_)
  all_goals
    intro v4 w4 hown4 hg4
    rw [← pts_append] at hown4
    obtain ⟨A5, c5, rfl⟩ := own_form hown4
    have hb4 : Below w1.heap.size w1 w4 := hb2.grown hg4 hb2.size (fun k e => (hown2.lt k e).1)
    have R4 := R1.keep hb4
    have hn' : m + (len - (m + 1)) = l'.length := by
      rw [← HS.out, List.length_append, List.length_take, List.length_drop, HL.out]; omega
    rw [HS.out] at hown4
    have HW := Lib.hid (RT.new R1 hb4 hown4 hB1 hn')
    have HK := Lib.hid (K1.keep hb4 hB1)
    obtain ⟨A4, c4, Bh4, _⟩ := R4.has
    have HKs := Lib.hid (HK.out.set Bh4 (.inl rfl) R4.hB 4 (.slice A5 (m + (len - (m + 1))) c5))
    obtain ⟨c1, f1, z1⟩ := Bh4.all
    clear hn' d0 d1 d2 d3 d4 f2 z2 hown4 Hs3 HS
    go_wp2
    go_ret
    exact ⟨rfl, HW.out, HKs.out⟩

set_option maxRecDepth 100000 in
set_option maxHeartbeats 1000000 in
theorem rnew_ok (N : Num tr ba ke ho) (w : World) : Calls Try.prog 11 #[.int .i64 tr, .int .u64 ba, .int .u64 ke, .int .u64 ho] w fun e w' => e = .returned (.pointer (some ⟨w.heap.size, 0, none⟩)) ∧ RT w' w.heap.size w.heap.size tr ba ke ho [] ∧ Below w.heap.size w w' := by
  have := N.t1; have := N.t2; have := N.b1; have := N.b2; have := N.k1; have := N.k2; have := N.o1; have := N.o2
  have g1 : decide (tr < 1) = false := decide_eq_false (by omega)
  have g2 : decide (8 < tr) = false := decide_eq_false (by omega)
  have g3 : (ba == 0) = false := ne_b (by omega)
  have g4 : (ke == 0) = false := ne_b (by omega)
  have g5 : (ho == 0) = false := ne_b (by omega)
  have g6 : decide (1000000 < ba) = false := decide_eq_false (by omega)
  have g7 : decide (1000000 < ke) = false := decide_eq_false (by omega)
  have g8 : decide (1000000 < ho) = false := decide_eq_false (by omega)
  go_enter Try.func11, Try.ntmps11
  go_wp2
  go_ret
  exact ⟨rfl, ⟨⟨none, 0, Blk.new _ _ _, rfl, .inl ⟨rfl, rfl⟩⟩, Nat.le_refl _⟩, (Below.refl _ _).alloc (Nat.le_refl _) _⟩
def NewBad (tr ba ke ho : Int) : Prop := tr < 1 ∨ 8 < tr ∨ ba = 0 ∨ ke = 0 ∨ ho = 0 ∨ 1000000 < ba ∨ 1000000 < ke ∨ 1000000 < ho
set_option maxRecDepth 100000 in
set_option maxHeartbeats 1000000 in
theorem rnew_no (hb : NewBad tr ba ke ho) (w : World) : Calls Try.prog 11 #[.int .i64 tr, .int .u64 ba, .int .u64 ke, .int .u64 ho] w fun e w' => e = .returned (.pointer none) ∧ w = w' := by
  have HB := Lib.hid hb
  clear hb
  go_enter Try.func11, Try.ntmps11
  go_wp2
  all_goals first
    | (go_ret; exact ⟨rfl, rfl⟩)
    | (exfalso; have := HB.out; unfold NewBad at this; simp only [beq_eq_false_iff_ne, ne_eq] at *; omega)
end Go.Proofs.Ytglliiijeadhcaa
