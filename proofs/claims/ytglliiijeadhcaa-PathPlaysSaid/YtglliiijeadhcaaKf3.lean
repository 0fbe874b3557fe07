/- The reference's set, New, Want, Open, Heard, Lost; no conditions but those that each theorem names. -/
import Derived.Test.YtglliiijeadhcaaKf2
namespace Go.Proofs.Ytglliiijeadhcaa
open Go.RowKit
set_option linter.unusedVariables false
variable {w w' : World} {B h : Nat} {tr ba ke ho : Int} {l : List Pt} {F : Nat → Pt}

theorem allL33 (F : Nat → Pt) : (allL F 33).length ≤ 33 := allL_len F 33
theorem info63 : (Try.prog.info? 63).map (fun i => (i.zero, i.size, i.bytes)) = some (some (.agg #[.int .i64 0, .int .i64 0, .int .i64 0, .int .u32 0, .int .u16 0, .int .u64 0, .int .u64 0]), 7, 48) := by kernel_rfl

/-- What set makes of a rising list. -/
structure SetL (l : List Pt) (x : Pt) (l' : List Pt) : Prop where
  yes : ∀ m, At l x.a m true → m < l.length ∧ l.set m x = l'
  no : ∀ m, At l x.a m false → l.take m ++ (x :: l.drop m) = l'
theorem setL_of (W : WF tr F) {k : Nat} (h2 : k ≤ 32) {x : Pt} (hb : x.b ≠ 0) (ha : x.a = k) : SetL (allL F 33) x (allL (upd F k x) 33) where
  yes m h := by
    rw [ha] at h
    obtain ⟨rfl, h3⟩ := at_of W (by omega) h
    have h4 := h3.1 rfl
    exact ⟨(at_get (by omega) h4).1, set_there (by omega) h4 x hb⟩
  no m h := by
    rw [ha] at h
    obtain ⟨rfl, h3⟩ := at_of W (by omega) h
    exact set_new (by omega) (fun h4 => by have := h3.2 h4; cases this) x hb
theorem RT.len (R : RT w B h tr ba ke ho l) {A : Option Addr} {c n : Nat} (hv : w.cell? ⟨h, 4, none⟩ = some (.slice A n c)) : n = l.length ∧ l.length ≤ c ∧ w.ownsRow B 63 7 (.slice A l.length c) l.length (pts l) := by
  obtain ⟨A', c', hb, hown⟩ := R.has
  have e := hb.cell 4
  rw [hv] at e
  simp only [List.getElem?_toArray, List.getElem?_cons_succ, List.getElem?_cons_zero, Option.some.injEq] at e
  injection e with e1 e2 e3
  subst e1; subst e3
  refine ⟨e2, ?_, hown⟩
  rcases hown.2 with ⟨h1, h2⟩ | ⟨g', cap, cur, hv, _, _, h1, _⟩
  · omega
  · injection hv with _ _ hc; omega
/-- the facts that a walk wants of the reference's table -/
theorem RT.facts (R : RT w B h tr ba ke ho l) : ∃ A c len, Hid (l.length = len) ∧ len ≤ c ∧ w.cell? ⟨h, 0, none⟩ = some (.int .i64 tr) ∧ w.cell? ⟨h, 1, none⟩ = some (.int .u64 ba) ∧ w.cell? ⟨h, 2, none⟩ = some (.int .u64 ke) ∧ w.cell? ⟨h, 3, none⟩ = some (.int .u64 ho) ∧
    w.cell? ⟨h, 4, none⟩ = some (.slice A len c) ∧ (∀ i, w.frozen? ⟨h, i, none⟩ = false) ∧ h < w.heap.size ∧ B ≤ w.heap.size ∧
    Hid (∀ j, j < len → ∃ (r : Nat) (y : Pt), A = some ⟨r, 0, none⟩ ∧ B ≤ r ∧ r ≠ h ∧ Hid (l[j]? = some y) ∧ (w.cell? ⟨r, j * 7, none⟩ = some (.int .i64 y.a) ∧ w.cell? ⟨r, j * 7 + 1, none⟩ = some (.int .i64 y.b) ∧ w.cell? ⟨r, j * 7 + 2, none⟩ = some (.int .i64 y.c) ∧ w.cell? ⟨r, j * 7 + 3, none⟩ = some (.int .u32 y.d) ∧ w.cell? ⟨r, j * 7 + 4, none⟩ = some (.int .u16 y.e) ∧ w.cell? ⟨r, j * 7 + 5, none⟩ = some (.int .u64 y.f) ∧ w.cell? ⟨r, j * 7 + 6, none⟩ = some (.int .u64 y.k)) ∧ (∀ i, w.frozen? ⟨r, i, none⟩ = false) ∧ r < w.heap.size) := by
  obtain ⟨A, c, hb, hown⟩ := R.has
  have hc : l.length ≤ c := (R.len (hb.cell 4)).2.1
  refine ⟨A, c, _, Lib.hid rfl, hc, hb.cell 0, hb.cell 1, hb.cell 2, hb.cell 3, hb.cell 4, hb.frozen, hb.lt, Nat.le_trans R.hB (Nat.le_of_lt hb.lt), Lib.hid (fun j hj => ?_)⟩
  obtain ⟨r, cur, h1, h2, h3, h4⟩ := own_at hown hj
  exact ⟨r, l[j], h1, h2, Blk.ne_ h3 hb (by decide), Lib.hid (List.getElem?_eq_getElem hj), ⟨(h3.cell _).trans (h4 0 (by omega)), (h3.cell _).trans (h4 1 (by omega)), (h3.cell _).trans (h4 2 (by omega)), (h3.cell _).trans (h4 3 (by omega)), (h3.cell _).trans (h4 4 (by omega)), (h3.cell _).trans (h4 5 (by omega)), (h3.cell _).trans (h4 6 (by omega))⟩, h3.frozen, h3.lt⟩

theorem RT.keep {w1 w2 : World} (R : RT w1 B h tr ba ke ho l) (hb : Below w1.heap.size w1 w2) : RT w2 B h tr ba ke ho l := by
  obtain ⟨A, c, hh, hown⟩ := R.has
  refine ⟨⟨A, c, hh.keep hb, hown.1, ?_⟩, R.hB⟩
  rcases hown.2 with h2 | ⟨g', cap, cur, hv, q1, q2, r⟩
  · exact .inl h2
  · have hG : Blk w1 g' 63 cur := ⟨q2⟩
    exact .inr ⟨g', cap, cur, hv, q1, (hG.keep hb).out, r⟩
theorem KeepR.keep {a w1 w2 : World} (K : KeepR B a w1) (hb : Below w1.heap.size w1 w2) (hB : B ≤ w1.heap.size) : KeepR B a w2 :=
  ⟨K.b.trans (hb.mono hB), fun i t cs hi h1 h2 => (K.k i t cs hi h1 h2).keep hb⟩
/-- the reference's table gets a new row -/
theorem RT.new {w1 w2 : World} (R : RT w1 B h tr ba ke ho l) (hb : Below w1.heap.size w1 w2) {N n : Nat} {v : Value} {l' : List Pt} (hown : w2.ownsRow N 63 7 v n (pts l')) (hN : B ≤ N) (hn : n = l'.length) :
    RT (w2.setCell ⟨h, 4, none⟩ v) B h tr ba ke ho l' := by
  subst hn
  obtain ⟨A, c, hh, _⟩ := (R.keep hb).has
  have hh' := hh.put 4 v rfl
  have hv : ∃ A' c', v = .slice A' l'.length c' := by
    rcases hown.2 with ⟨h1, h2⟩ | ⟨g', cap, cur, hv, _⟩
    · exact ⟨none, 0, by rw [h1, h2]⟩
    · exact ⟨_, _, hv⟩
  obtain ⟨A', c', rfl⟩ := hv
  refine ⟨⟨A', c', hh', hown.1, ?_⟩, R.hB⟩
  rcases hown.2 with h2 | ⟨g', cap, cur, hv, q1, q2, r⟩
  · exact .inl h2
  · have hG : Blk w2 g' 63 cur := ⟨q2⟩
    exact .inr ⟨g', cap, cur, hv, Nat.le_trans hN q1, (hG.far (Blk.ne_ hG hh (by decide)) _).out, r⟩
theorem own_form {base : Nat} {e : TypeId} {size n : Nat} {v : Value} {xs : List Value} (h : w.ownsRow base e size v n xs) : ∃ A c, v = .slice A n c := by
  rcases h.2 with ⟨h1, h2⟩ | ⟨g', cap, cur, hv, _⟩
  · exact ⟨none, 0, by rw [h1, h2]⟩
  · exact ⟨_, _, hv⟩
theorem pts_one_eq (x : Pt) : pts [x] = [.int .i64 x.a, .int .i64 x.b, .int .i64 x.c, .int .u32 x.d, .int .u16 x.e, .int .u64 x.f, .int .u64 x.k] := rfl
theorem pts_cons (x : Pt) (l : List Pt) : pts (x :: l) = [.int .i64 x.a, .int .i64 x.b, .int .i64 x.c, .int .u32 x.d, .int .u16 x.e, .int .u64 x.f, .int .u64 x.k] ++ pts l := rfl

set_option maxRecDepth 100000 in
set_option maxHeartbeats 1000000 in
theorem rset_l (x : Pt) (l' : List Pt) (hS : SetL l x l') (hl : l.length ≤ 33) (w : World) (R : RT w B h tr ba ke ho l) :
    Calls Try.prog 29 #[.pointer (some ⟨h, 0, none⟩), x.val] w fun e w' => e = .returned (.tuple #[]) ∧ RT w' B h tr ba ke ho l' ∧ KeepR B w w' := by
  have hlh : h < w.heap.size := by obtain ⟨A0, c0, len0, _, _, _, _, _, _, _, _, q, _, _⟩ := R.facts; exact q
  have hBs : B ≤ w.heap.size := by obtain ⟨A0, c0, len0, _, _, _, _, _, _, _, _, _, q, _⟩ := R.facts; exact q
  obtain ⟨i0, hi, hz0, hz1, hz2⟩ := info_parts info63
  have Hi := Lib.hid hi
  have Hz0 := Lib.hid hz0
  have Hz1 := Lib.hid hz1
  have Hz2 := Lib.hid hz2
  clear hi hz0 hz1 hz2
  go_enter Try.func29, Try.ntmps29
  go_wp2_with fail
  refine (rfind x.a _ (R.alloc _) hl).mono ?_
  rintro e1 w1 ⟨m, b, rfl, hat, n, hw⟩
  have R1 : RT w1 B h tr ba ke ho l := hw ▸ (R.alloc _).drewN n
  have K1 : KeepR B w w1 := hw ▸ ((KeepR.refl B w).alloc hBs _).drewN n
  have B1 : Blk w1 w.heap.size 63 #[.int .i64 x.a, .int .i64 x.b, .int .i64 x.c, .int .u32 x.d, .int .u16 x.e, .int .u64 x.f, .int .u64 x.k] := hw ▸ ⟨(Blk.new w 63 _).out⟩
  clear hw R
  have hmle := hat.le
  obtain ⟨c1, f1, z1⟩ := B1.all
  obtain ⟨A, c, len, HL, hlc, d0, d1, d2, d3, d4, f2, z2, hB1, HR⟩ := R1.facts
  rw [HL.out] at hmle
  have nh1 : h ≠ w.heap.size := by omega
  have nh2 : w.heap.size ≠ h := by omega
  cases b with
  | true =>
    obtain ⟨hlt, hset⟩ := hS.yes m hat
    obtain ⟨r, y, rfl, hB, nhr, hy, ⟨y0, y1, y2, y3, y4, y5, y6⟩, f3, z3⟩ := HR.out m (by rw [← HL.out]; exact hlt)
    have hP := R1.put7 (r := r) (c := c) (by rw [HL.out]; exact d4) hlt x
    rw [hset] at hP
    have HP := Lib.hid hP
    rw [HL.out] at hlt
    clear hP hset R1 B1 hat
    go_wp2
    go_region
    go_wp2
    refine bodyPost_ret (results_none rfl _ _ _) rfl ?_
    exact ⟨rfl, HP.out.1.drew, (K1.trans HP.out.2).drew⟩
  | false =>
    have hset := hS.no m hat
    have HS := Lib.hid hset
    obtain ⟨q1, q2, hown⟩ := R1.len (by rw [d4])
    have hs1 := Lib.hid (src_take hown (m := m) (by rw [HL.out]; exact hmle))
    have hs2 := Lib.hid (src_drop hown (m := m) (by rw [HL.out]; exact hmle) q2)
    rw [HL.out] at hs2
    clear hset hat q1 q2
    rw [HL.out] at hl
    go_wp2_with (at_builtin; refine wpList_app rfl (.tmp 22) (.tmp 28) 56 rfl w1.heap.size 63 i0 (.agg #[.int .i64 0, .int .i64 0, .int .i64 0, .int .u32 0, .int .u16 0, .int .u64 0, .int .u64 0]) 7 48 Try.underlying56 Hi.out Hz0.out Hz1.out Hz2.out rfl (by decide) (.slice none 0 0) 0 [] rfl ⟨rfl, .inl ⟨rfl, rfl⟩⟩ A m c (pts (l.take m)) rfl hs1.out (pts_cells _) ?c1 ?c2 ?c3 ?_)
    case c1 => unfold maxLen; omega
    case c2 => omega
    case c3 => exact Nat.le_refl _
    intro v2 w2 hown2 hg2
    try simp only [Nat.zero_add, List.nil_append] at hown2
    have hb2 : Below w1.heap.size w1 w2 := (Below.refl _ _).grown hg2 (Nat.le_refl _) (fun k e => by cases e)
    have B2 := B1.keep hb2
    clear hg2 c1 f1 z1 d0 d1 d2 d3 d4 f2 z2 HR hs1 hown
    obtain ⟨c1, f1, z1⟩ := B2.all
    have hz2 := hb2.size
    go_wp2_with (at_builtin; refine wpList_append_own _ rfl (.tmp 30) (.tmp 32) 56 rfl w1.heap.size 63 i0 (.agg #[.int .i64 0, .int .i64 0, .int .i64 0, .int .u32 0, .int .u16 0, .int .u64 0, .int .u64 0]) 7 48 Try.underlying56 Hi.out Hz0.out Hz1.out Hz2.out rfl (by decide) v2 m (pts (l.take m)) rfl (hown2.alloc _) ⟨w2.heap.size, 0, none⟩ 1 1 [.int .i64 x.a, .int .i64 x.b, .int .i64 x.c, .int .u32 x.d, .int .u16 x.e, .int .u64 x.f, .int .u64 x.k] rfl rfl ?c1 ?c2 ?c3 ?c4 ?c5 ?_)
    case c1 => exact seven_new _ _ _ _ _ _ _ _ _
    case c2 => intro u hu; simp only [List.mem_cons, List.not_mem_nil, or_false] at hu; rcases hu with rfl | rfl | rfl | rfl | rfl | rfl | rfl <;> rfl
    case c3 => unfold maxLen; omega
    case c4 => omega
    case c5 => rw [World.size_alloc]; omega
    intro v3 w3 hown3 hg3 hnn
    clear hnn
    have hb3 : Below w1.heap.size w1 w3 := (hb2.alloc hz2 _).grown hg3 (by rw [World.size_alloc]; omega) (fun k e => (hown2.lt k e).1)
    have R3 := R1.keep hb3
    obtain ⟨A3, c3, len3, HL3, hlc3, d0, d1, d2, d3, d4, f2, z2, hB3, HR⟩ := R3.facts
    obtain rfl : len = len3 := HL.out.symm.trans HL3.out
    obtain ⟨q1, q2, hown⟩ := R3.len (by rw [d4])
    have hs3 := src_drop hown (m := m) (by rw [HL.out]; exact hmle) q2
    rw [HL.out] at hs3
    clear q1 q2 hown HR hs2 c1 f1 z1
    rw [← pts_one_eq, ← pts_append] at hown3
    have Hs3 := Lib.hid hs3
    clear hs3
    go_wp2_with (at_builtin; refine wpList_app rfl (.tmp 35) (.tmp 41) 56 rfl w1.heap.size 63 i0 (.agg #[.int .i64 0, .int .i64 0, .int .i64 0, .int .u32 0, .int .u16 0, .int .u64 0, .int .u64 0]) 7 48 Try.underlying56 Hi.out Hz0.out Hz1.out Hz2.out rfl (by decide) v3 (m + 1) (pts (l.take m ++ [x])) rfl hown3 _ (len - m) (c3 - m) (pts (l.drop m)) rfl Hs3.out (pts_cells _) (by unfold maxLen; omega) (by omega) hb3.size ?_)
    all_goals
      intro v4 w4 hown4 hg4
      rw [← pts_append] at hown4
      obtain ⟨A5, c5, rfl⟩ := own_form hown4
      have hb4 : Below w1.heap.size w1 w4 := hb3.grown hg4 hb3.size (fun k e => (hown3.lt k e).1)
      have R4 := R1.keep hb4
      have hl' : l.take m ++ [x] ++ l.drop m = l' := by rw [← HS.out, List.append_assoc]; rfl
      have hn' : m + 1 + (len - m) = l'.length := by
        rw [← hl', List.length_append, List.length_append, List.length_take, List.length_drop, HL.out]; simp; omega
      rw [hl'] at hown4
      have HW := Lib.hid (RT.new R1 hb4 hown4 hB1 hn')
      have HK := Lib.hid (K1.keep hb4 hB1)
      obtain ⟨A4, c4, Bh4, _⟩ := R4.has
      have HKs := Lib.hid (HK.out.set Bh4 (.inl rfl) R4.hB 4 (.slice A5 (m + 1 + (len - m)) c5))
      have Hn := Lib.hid hn'
      obtain ⟨c1, f1, z1⟩ := Bh4.all
      clear hl' hn' d0 d1 d2 d3 d4 f2 z2 hown4 Hs3 hown3 HS
      go_wp2
      go_end0
      exact ⟨rfl, HW.out, HKs.out⟩
end Go.Proofs.Ytglliiijeadhcaa
