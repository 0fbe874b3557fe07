/- What PathMany does: at all arguments it answers true, and changes nothing that was there. -/
import Derived.Test.YtglliiijeadhcaaPmany0
namespace Go.Proofs.Ytglliiijeadhcaa
open Go.RowKit
set_option linter.unusedVariables false

theorem num4 : Num 2 3 4 20 := ⟨by omega, by omega, by omega, by omega, by omega, by omega, by omega, by omega⟩
section
variable {g : Nat} {tr ba ke ho : Int} {F : Nat → Pt}
theorem want_at (t : Nat) (n : Int) (w : World) (T : Tab w g tr ba ke ho F) (h2 : t < 32) (h3 : n ≤ 4611686018427387904) (hb : (F (t + 1)).b = 0) :
    Calls Try.prog 12 #[.pointer (some ⟨g, 0, none⟩), .int .i64 ((t : Int) + 1), .int .u64 n] w fun e w' => e = .returned (.int .i64 0) ∧ Tab w' g tr ba ke ho (upd F (t + 1) ⟨((t + 1 : Nat) : Int), 2, 0, 0, 0, n, 0⟩) ∧ w.grownBy w' (some g) :=
  want_ok (t + 1) n w T (by omega) (by omega) h3 hb
theorem open_at (t : Nat) (i q n : Int) (w : World) (T : Tab w g tr ba ke ho F) (h2 : t < 32) (h0 : 0 ≤ n) (h3 : n ≤ 4611686018427387904) (ha : noneB i q = false)
    (k1 : 0 ≤ ke) (k2 : ke ≤ 1000000) (o1 : 0 ≤ ho) (o2 : ho ≤ 1000000) :
    Calls Try.prog 14 #[.pointer (some ⟨g, 0, none⟩), .int .i64 ((t : Int) + 1), .agg #[.int .u32 i, .int .u16 q], .int .u64 n] w fun e w' => e = .returned (.int .i64 0) ∧ Tab w' g tr ba ke ho (upd F (t + 1) ⟨((t + 1 : Nat) : Int), 3, 0, i, q, n + ke, n + ho⟩) ∧ w.grownBy w' (some g) :=
  open_ok (t + 1) i q n w T (by omega) (by omega) h0 h3 ha k1 k2 o1 o2
end

/-- What Due answers: a row, whose entries are read where there are some. -/
def RowOf (w : World) (l : List (Int × Int)) (A : Option Addr) : Prop :=
  ∀ (j : Nat) (h : j < l.length), ∃ p cur, A = some ⟨p, 0, none⟩ ∧ Blk w p 52 cur ∧ cur[j * 2]? = some (.int .i64 (l[j]).1) ∧ cur[j * 2 + 1]? = some (.int .i64 (l[j]).2) ∧
    ∀ i (hi : i + 1 = j), cur[i * 2]? = some (.int .i64 (l[i]'(by omega)).1)
theorem rowOf {w : World} {base : Nat} {v : Value} {l : List (Int × Int)} (h : w.ownsRow base 52 2 v l.length (sends l)) : ∃ A c, v = .slice A l.length c ∧ RowOf w l A ∧ l.length ≤ c := by
  obtain ⟨hl, h | ⟨g, cap, cur, rfl, hb, hh, hc, hc2, hs, ht⟩⟩ := h
  · exact ⟨none, 0, by rw [h.1, h.2], fun j hj => by rw [h.2] at hj; omega, by omega⟩
  · refine ⟨_, cap, rfl, fun j hj => ?_, hc⟩
    obtain ⟨a, b⟩ := sends_get l j hj
    refine ⟨g, cur, rfl, ⟨hh⟩, take_at ht a (by omega), take_at ht b (by omega), fun i hi => ?_⟩
    exact take_at ht (sends_get l i (by omega)).1 (by omega)
theorem RowOf.keep {w w' : World} {l : List (Int × Int)} {A : Option Addr} (h : RowOf w l A) (hb : Below w.heap.size w w') : RowOf w' l A := by
  intro j hj
  obtain ⟨p, cur, h1, h2, h3⟩ := h j hj
  exact ⟨p, cur, h1, h2.keep hb, h3⟩
theorem RowOf.drew {w : World} {l : List (Int × Int)} {A : Option Addr} (h : RowOf w l A) : RowOf w.drew l A := by
  intro j hj
  obtain ⟨p, cur, h1, h2, h3⟩ := h j hj
  exact ⟨p, cur, h1, h2.drew, h3⟩
theorem RowOf.drewN {w : World} {l : List (Int × Int)} {A : Option Addr} (h : RowOf w l A) (n : Nat) : RowOf (w.drewN n) l A := by
  intro j hj
  obtain ⟨p, cur, h1, h2, h3⟩ := h j hj
  exact ⟨p, cur, h1, ⟨h2.out⟩, h3⟩
theorem PmE.of {wa op n : Int} {F : Nat → Pt} (h : PMI wa op n F) {l : List (Int × Int)} (hl : dueL 2 3 4 20 n F 33 = l) {j : Nat} (hj : j < l.length) : PmE op n (l[j]) := by
  subst hl; exact (dueL_mem h 33 (by omega) _ (List.getElem_mem hj)).1
theorem inc_of {wa op n : Int} {F : Nat → Pt} (h : PMI wa op n F) {l : List (Int × Int)} (hl : dueL 2 3 4 20 n F 33 = l) {j : Nat} (hj : j + 1 < l.length) : (l[j]).1 < (l[j + 1]).1 := by
  subst hl; exact List.pairwise_iff_getElem.1 (dueL_inc h 33 (by omega)) j (j + 1) (by omega) hj (by omega)
/-- what Due gives here: a row, and the table behind it -/
structure DueG (wa op n : Int) (g : Nat) (w w' : World) (A : Option Addr) (c len : Nat) (l : List (Int × Int)) (F' : Nat → Pt) : Prop where
  T : Tab w' g 2 3 4 20 F'
  gr : w.grownBy w' (some g)
  R : RowOf w' l A
  ln : l.length = len
  cap : len ≤ c
  le : len ≤ 33
  E : ∀ j (h : j < l.length), PmE op n (l[j])
  inc : ∀ j (h : j + 1 < l.length), (l[j]).1 < (l[j + 1]).1
  P : PMI wa op (n + 1) F'
  late : ∀ k, k < 33 → (F' k).b ≠ 0 → n < (F' k).f
theorem due_row {g : Nat} {F : Nat → Pt} {wa op : Int} (n : Int) (w : World) (T : Tab w g 2 3 4 20 F) (h : PMI wa op n F) (h0 : 0 ≤ n) (h3 : n ≤ 4611686018427387904) :
    Calls Try.prog 21 #[.pointer (some ⟨g, 0, none⟩), .int .u64 n] w fun e w' => ∃ A c len l F', e = .returned (.slice A len c) ∧ DueG wa op n g w w' A c len l F' := by
  refine (due_any num4 n w T h0 h3 h.c).mono ?_
  rintro e w' ⟨v, rfl, h1, h2, h4⟩
  obtain ⟨A, c, rfl, h5, h6⟩ := rowOf h2
  exact ⟨A, c, _, _, _, rfl, h1, h4, h5, rfl, h6, dueL_len _ _ _ _ _ _ _, fun j hj => PmE.of h rfl hj, fun j hj => inc_of h rfl hj, pmi_next h, pm_late h⟩
theorem due_again {g : Nat} {F : Nat → Pt} (n : Int) (w : World) (T : Tab w g 2 3 4 20 F) (hc : ∀ k, k < 33 → 0 ≤ (F k).c) (h : ∀ k, k < 33 → (F k).b ≠ 0 → n < (F k).f) (h0 : 0 ≤ n) (h3 : n ≤ 4611686018427387904) :
    Calls Try.prog 21 #[.pointer (some ⟨g, 0, none⟩), .int .u64 n] w fun e w' => ∃ A C, e = .returned (.slice A 0 C) ∧ Tab w' g 2 3 4 20 F ∧ w.grownBy w' (some g) := by
  refine (due_any num4 n w T h0 h3 hc).mono ?_
  rintro e w' ⟨v, rfl, h1, h2, h4⟩
  rw [dueF_late h] at h1
  rw [dueL_late h 33 (by omega)] at h2
  obtain ⟨_, h2⟩ := h2
  rcases h2 with ⟨rfl, _⟩ | ⟨g', c, cur, rfl, hb, hh, hcap, hcap2, hsz, ht⟩
  · exact ⟨_, _, rfl, h1, h4⟩
  · exact ⟨_, _, rfl, h1, h4⟩
theorem all_len {g : Nat} {tr ba ke ho : Int} {F : Nat → Pt} (w : World) (T : Tab w g tr ba ke ho F) {m : Nat} (hm : (allL F 33).length = m) :
    Calls Try.prog 23 #[.pointer (some ⟨g, 0, none⟩)] w fun e w' => ∃ A C, e = .returned (.slice A m C) ∧ Below w.heap.size w w' := by
  refine (all_any w T).mono ?_
  rintro e w' ⟨v, rfl, h2, h4⟩
  rw [hm] at h2
  obtain ⟨hl, h2⟩ := h2
  rcases h2 with ⟨rfl, rfl⟩ | ⟨g', c, cur, rfl, hb, hh, hcap, hcap2, hsz, ht⟩
  · exact ⟨_, _, rfl, h4⟩
  · exact ⟨_, _, rfl, h4⟩
theorem below_drewN {B : Nat} {a w : World} (h : Below B a w) (n : Nat) : Below B a (w.drewN n) := ⟨h.os, h.tape, h.output, h.size, h.block⟩
theorem sh_bd {x : Int} (h0 : 0 ≤ x) (h1 : x ≤ 255) (t : Nat) : 0 ≤ x / 2 ^ t ∧ x / 2 ^ t ≤ 255 := by
  have hp : (0 : Int) < 2 ^ t := Int.pow_pos (by decide)
  exact ⟨Int.ediv_nonneg h0 (by omega), Int.le_trans (Int.ediv_le_self _ h0) h1⟩

set_option maxRecDepth 100000 in
set_option maxHeartbeats 4000000 in
theorem pm_all (x y z : Int) (x1 : 0 ≤ x) (x2 : x ≤ 255) (y1 : 0 ≤ y) (y2 : y ≤ 255) (z1 : 0 ≤ z) (z2 : z ≤ 255) (w : World) :
    Calls Try.prog 7 #[.int .u8 x, .int .u8 y, .int .u8 z] w fun e w' => e = .returned (.bool true) ∧ Below w.heap.size w w' := by
  have hbw := Below.refl w.heap.size w
  go_enter Try.func7, Try.ntmps7
  go_wp2_with fail
  refine (examples_any _).mono ?_
  rintro e1 w1 ⟨rfl, hb1⟩
  replace hbw := hbw.trans (hb1.mono hbw.size)
  clear hb1
  go_wp2_with fail
  refine (new_ok num4 _).mono ?_
  rintro e2 w2 ⟨rfl, hb2, T⟩
  have Hg : w.heap.size ≤ w1.heap.size := hbw.size
  replace hbw := hbw.trans (hb2.mono Hg)
  clear hb2
  go_wp2_with fail
  go_loopw [10, 11] (fun v10 v11 wr => ∃ t m : Nat, t ≤ 8 ∧ Hid (m = pmC x y t) ∧ m ≤ t ∧ v10 = .int .i64 m ∧ v11 = .int .i64 t ∧ Tab wr w1.heap.size 2 3 4 20 (pmF x y t) ∧ Below w.heap.size w wr) (fun _ v11 _ => 8 - (intOf v11).toNat)
  case atStart => exact ⟨0, 0, by omega, Lib.hid rfl, by omega, rfl, rfl, by rw [pmF_0]; exact T, hbw⟩
  case round =>
    clear T hbw
    obtain ⟨t, m, ht, hm, hmt, rfl, rfl, T, hbw⟩ := hrel
    by_cases hlt : t < 8
    · obtain ⟨qx0, qx1⟩ := sh_bd x1 x2 t
      obtain ⟨qy0, qy1⟩ := sh_bd y1 y2 t
      by_cases hw : x / 2 ^ t % 2 = 1
      · have Hw := Lib.hid hw
        have hw' : (x / 2 ^ t % 2 == 1) = true := beq_iff_eq.2 hw
        clear hw
        by_cases ho : y / 2 ^ t % 2 = 1
        · have Ho := Lib.hid ho
          have ho' : (y / 2 ^ t % 2 == 1) = true := beq_iff_eq.2 ho
          clear ho
          go_wp2_with fail
          refine (want_at t 0 _ T (by omega) (by omega) (by rw [pmF_at]; rfl)).mono ?_
          rintro e3 w3 ⟨rfl, T3, hg3⟩
          clear T
          have T := T3
          clear T3
          replace hbw := hbw.grown hg3 hbw.size (fun _ e => by injection e with e; rw [← e]; exact Hg)
          clear hg3
          go_wp2_with fail
          refine (open_at t 3 3 0 _ T (by omega) (by omega) (by omega) rfl (by omega) (by omega) (by omega) (by omega)).mono ?_
          rintro e4 w4 ⟨rfl, T4, hg3⟩
          clear T
          have T := T4
          clear T4
          replace hbw := hbw.grown hg3 hbw.size (fun _ e => by injection e with e; rw [← e]; exact Hg)
          clear hg3
          rw [upd_upd] at T
          rw [show (0 : Int) + 4 = 4 from rfl, show (0 : Int) + 20 = 20 from rfl, pmF_op x y t Ho.out] at T
          go_wp2
          go_roundw
          case rel => exact ⟨t + 1, m + 1, by omega, Lib.hid (by rw [pmC, if_pos (by have := Hw.out; have := Ho.out; omega), ← hm.out]), by omega, by go_num, by go_num, T, hbw⟩
          case measure => simp [intOf]; omega
        · have Ho := Lib.hid ho
          have ho' : (y / 2 ^ t % 2 == 1) = false := ne_b ho
          clear ho
          go_wp2_with fail
          refine (want_at t 0 _ T (by omega) (by omega) (by rw [pmF_at]; rfl)).mono ?_
          rintro e3 w3 ⟨rfl, T3, hg3⟩
          clear T
          have T := T3
          clear T3
          replace hbw := hbw.grown hg3 hbw.size (fun _ e => by injection e with e; rw [← e]; exact Hg)
          clear hg3
          rw [pmF_wa x y t Ho.out Hw.out] at T
          go_wp2
          go_roundw
          case rel => exact ⟨t + 1, m + 1, by omega, Lib.hid (by rw [pmC, if_pos (by have := Hw.out; have := Ho.out; omega), ← hm.out]), by omega, by go_num, by go_num, T, hbw⟩
          case measure => simp [intOf]; omega
      · have Hw := Lib.hid hw
        have hw' : (x / 2 ^ t % 2 == 1) = false := ne_b hw
        clear hw
        by_cases ho : y / 2 ^ t % 2 = 1
        · have Ho := Lib.hid ho
          have ho' : (y / 2 ^ t % 2 == 1) = true := beq_iff_eq.2 ho
          clear ho
          go_wp2_with fail
          refine (open_at t 3 3 0 _ T (by omega) (by omega) (by omega) rfl (by omega) (by omega) (by omega) (by omega)).mono ?_
          rintro e4 w4 ⟨rfl, T4, hg3⟩
          clear T
          have T := T4
          clear T4
          replace hbw := hbw.grown hg3 hbw.size (fun _ e => by injection e with e; rw [← e]; exact Hg)
          clear hg3
          rw [show (0 : Int) + 4 = 4 from rfl, show (0 : Int) + 20 = 20 from rfl, pmF_op x y t Ho.out] at T
          go_wp2
          go_roundw
          case rel => exact ⟨t + 1, m + 1, by omega, Lib.hid (by rw [pmC, if_pos (by have := Hw.out; have := Ho.out; omega), ← hm.out]), by omega, by go_num, by go_num, T, hbw⟩
          case measure => simp [intOf]; omega
        · have Ho := Lib.hid ho
          have ho' : (y / 2 ^ t % 2 == 1) = false := ne_b ho
          clear ho
          rw [pmF_no x y t Ho.out Hw.out] at T
          go_wp2
          go_roundw
          case rel => exact ⟨t + 1, m, by omega, Lib.hid (by rw [pmC, if_neg (by have := Hw.out; have := Ho.out; omega), ← hm.out]; rfl), by omega, rfl, by go_num, T, hbw⟩
          case measure => simp [intOf]; omega
    · obtain rfl : t = 8 := by omega
      simp only [show ((8 : Nat) : Int) = 8 from rfl]
      have hS := Lib.hid (pmi_start x y)
      go_wp2_with fail
      go_loopw [12] (fun v12 wr => ∃ (n : Nat) (F : Nat → Pt), n ≤ 40 ∧ v12 = .int .u64 n ∧ PMI x y n F ∧ Tab wr w1.heap.size 2 3 4 20 F ∧ Below w.heap.size w wr) (fun v12 _ => 40 - (intOf v12).toNat)
      case atStart => exact ⟨0, _, by omega, rfl, hS.out, T, hbw⟩
      case round =>
        clear T hbw hS
        obtain ⟨n, F, hn, rfl, hP, T, hbw⟩ := hrel
        by_cases hlt : (n : Int) ≤ z % 40
        · go_wp2_with fail
          refine (due_row n _ T hP (by omega) (by omega)).mono ?_
          rintro e5 w5 ⟨A, cp, len, l, F', rfl, D⟩
          clear T hP
          have T := D.T
          have hg3 := D.gr
          replace hbw := hbw.grown hg3 hbw.size (fun _ e => by injection e with e; rw [← e]; exact Hg)
          clear hg3
          have hR := D.R
          have hcp := D.cap
          have hle := D.le
          have HD := Lib.hid D
          clear D
          go_wp2_with fail
          go_loopw [14] (fun v14 wq => ∃ j : Nat, j ≤ len ∧ v14 = .int .i64 j ∧ RowOf wq l A ∧ Tab wq w1.heap.size 2 3 4 20 F' ∧ Below w.heap.size w wq) (fun v14 _ => len - (intOf v14).toNat)
          case atStart => exact ⟨0, by omega, rfl, hR, T, hbw⟩
          case round =>
            clear T hbw hR
            obtain ⟨j, hj, rfl, hR, T, hbw⟩ := hrel
            by_cases hlt2 : j < len
            · obtain ⟨p, cur, rfl, B, hc0, hc1, hcp0⟩ := hR j (by have := HD.out.ln; omega)
              obtain ⟨k, hk, he1, hkind⟩ := HD.out.E j (by have := HD.out.ln; omega)
              rw [he1] at hc0
              obtain ⟨c7, f7, z7⟩ := B.all
              obtain ⟨qy0, qy1⟩ := sh_bd y1 y2 k
              have k0 : decide ((k : Int) < 0) = false := decide_eq_false (by omega)
              have k7 : ¬ (7 : Int) < (k : Int) := by omega
              have k7' : decide ((7 : Int) < (k : Int)) = false := decide_eq_false k7
              have k8 : decide (7 < k) = false := decide_eq_false (by omega)
              by_cases hj0 : j < 1
              · rcases hkind with ⟨hq, hb⟩ | ⟨hq, hb⟩
                · rw [hq] at hc1
                  clear hq
                  have hb' : (y / 2 ^ k % 2 == 0) = false := by rw [hb]; rfl
                  clear hb
                  clear hcp0
                  have j1 : decide ((0 : Int) < (j : Int)) = false := decide_eq_false (by omega)
                  have j2 : decide (0 < j) = false := decide_eq_false (by omega)
                  go_wp2_with fail
                  refine wp_region_quiet_lit (by kernel_rfl) (by kernel_rfl) ?_
                  repeat (go_big_quiet_step (fail))
                  refine wpQuiet_nil ?_
                  intro _ hw'
                  obtain ⟨nq, hw''⟩ := hw'
                  subst hw''
                  go_wp2
                  go_roundw
                  case rel => exact ⟨j + 1, by omega, by go_num, hR.drewN _, T.drewN _, below_drewN hbw _⟩
                  case measure => simp [intOf]; omega
                · rw [hq] at hc1
                  clear hq
                  by_cases ho : y / 2 ^ k % 2 = 1
                  · have hb' : (y / 2 ^ k % 2 == 1) = true := beq_iff_eq.2 ho
                    have hn20 : decide ((n : Int) < 20) = false := decide_eq_false (by have := hb ho; omega)
                    have hn21 : decide (n < 20) = false := decide_eq_false (by have := hb ho; omega)
                    clear hb ho
                    clear hcp0
                    have j1 : decide ((0 : Int) < (j : Int)) = false := decide_eq_false (by omega)
                    have j2 : decide (0 < j) = false := decide_eq_false (by omega)
                    go_wp2_with fail
                    refine wp_region_quiet_lit (by kernel_rfl) (by kernel_rfl) ?_
                    repeat (go_big_quiet_step (fail))
                    refine wpQuiet_nil ?_
                    intro _ hw'
                    obtain ⟨nq, hw''⟩ := hw'
                    subst hw''
                    go_wp2
                    go_roundw
                    case rel => exact ⟨j + 1, by omega, by go_num, hR.drewN _, T.drewN _, below_drewN hbw _⟩
                    case measure => simp [intOf]; omega
                  · have hb' : (y / 2 ^ k % 2 == 1) = false := ne_b ho
                    clear hb ho
                    clear hcp0
                    have j1 : decide ((0 : Int) < (j : Int)) = false := decide_eq_false (by omega)
                    have j2 : decide (0 < j) = false := decide_eq_false (by omega)
                    go_wp2_with fail
                    refine wp_region_quiet_lit (by kernel_rfl) (by kernel_rfl) ?_
                    repeat (go_big_quiet_step (fail))
                    refine wpQuiet_nil ?_
                    intro _ hw'
                    obtain ⟨nq, hw''⟩ := hw'
                    subst hw''
                    go_wp2
                    go_roundw
                    case rel => exact ⟨j + 1, by omega, by go_num, hR.drewN _, T.drewN _, below_drewN hbw _⟩
                    case measure => simp [intOf]; omega
              · rcases hkind with ⟨hq, hb⟩ | ⟨hq, hb⟩
                · rw [hq] at hc1
                  clear hq
                  have hb' : (y / 2 ^ k % 2 == 0) = false := by rw [hb]; rfl
                  clear hb
                  obtain ⟨i, rfl⟩ : ∃ i, j = i + 1 := ⟨j - 1, by omega⟩
                  have hci := hcp0 i rfl
                  clear hcp0
                  have hin := HD.out.inc i (by have := HD.out.ln; omega)
                  rw [he1] at hin
                  generalize (l[i]'(by have := HD.out.ln; omega)).1 = pp at hci hin
                  have p1 : decide ((k : Int) + 1 ≤ pp) = false := decide_eq_false (by omega)
                  have p2 : decide ((k : Int) < pp) = false := decide_eq_false (by omega)
                  clear hin
                  go_wp2_with fail
                  refine wp_region_quiet_lit (by kernel_rfl) (by kernel_rfl) ?_
                  repeat (go_big_quiet_step (fail))
                  refine wpQuiet_nil ?_
                  intro _ hw'
                  obtain ⟨nq, hw''⟩ := hw'
                  subst hw''
                  go_wp2
                  go_roundw
                  case rel => exact ⟨(i + 1) + 1, by omega, by go_num, hR.drewN _, T.drewN _, below_drewN hbw _⟩
                  case measure => simp [intOf]; omega
                · rw [hq] at hc1
                  clear hq
                  by_cases ho : y / 2 ^ k % 2 = 1
                  · have hb' : (y / 2 ^ k % 2 == 1) = true := beq_iff_eq.2 ho
                    have hn20 : decide ((n : Int) < 20) = false := decide_eq_false (by have := hb ho; omega)
                    have hn21 : decide (n < 20) = false := decide_eq_false (by have := hb ho; omega)
                    clear hb ho
                    obtain ⟨i, rfl⟩ : ∃ i, j = i + 1 := ⟨j - 1, by omega⟩
                    have hci := hcp0 i rfl
                    clear hcp0
                    have hin := HD.out.inc i (by have := HD.out.ln; omega)
                    rw [he1] at hin
                    generalize (l[i]'(by have := HD.out.ln; omega)).1 = pp at hci hin
                    have p1 : decide ((k : Int) + 1 ≤ pp) = false := decide_eq_false (by omega)
                    have p2 : decide ((k : Int) < pp) = false := decide_eq_false (by omega)
                    clear hin
                    go_wp2_with fail
                    refine wp_region_quiet_lit (by kernel_rfl) (by kernel_rfl) ?_
                    repeat (go_big_quiet_step (fail))
                    refine wpQuiet_nil ?_
                    intro _ hw'
                    obtain ⟨nq, hw''⟩ := hw'
                    subst hw''
                    go_wp2
                    go_roundw
                    case rel => exact ⟨(i + 1) + 1, by omega, by go_num, hR.drewN _, T.drewN _, below_drewN hbw _⟩
                    case measure => simp [intOf]; omega
                  · have hb' : (y / 2 ^ k % 2 == 1) = false := ne_b ho
                    clear hb ho
                    obtain ⟨i, rfl⟩ : ∃ i, j = i + 1 := ⟨j - 1, by omega⟩
                    have hci := hcp0 i rfl
                    clear hcp0
                    have hin := HD.out.inc i (by have := HD.out.ln; omega)
                    rw [he1] at hin
                    generalize (l[i]'(by have := HD.out.ln; omega)).1 = pp at hci hin
                    have p1 : decide ((k : Int) + 1 ≤ pp) = false := decide_eq_false (by omega)
                    have p2 : decide ((k : Int) < pp) = false := decide_eq_false (by omega)
                    clear hin
                    go_wp2_with fail
                    refine wp_region_quiet_lit (by kernel_rfl) (by kernel_rfl) ?_
                    repeat (go_big_quiet_step (fail))
                    refine wpQuiet_nil ?_
                    intro _ hw'
                    obtain ⟨nq, hw''⟩ := hw'
                    subst hw''
                    go_wp2
                    go_roundw
                    case rel => exact ⟨(i + 1) + 1, by omega, by go_num, hR.drewN _, T.drewN _, below_drewN hbw _⟩
                    case measure => simp [intOf]; omega
            · obtain rfl : j = len := by omega
              have hP2 := HD.out.P
              go_wp2_with fail
              refine (due_again n _ T hP2.c HD.out.late (by omega) (by omega)).mono ?_
              rintro e6 w6 ⟨A2, C2, rfl, T6, hg3⟩
              clear T
              have T := T6
              clear T6
              replace hbw := hbw.grown hg3 hbw.size (fun _ e => by injection e with e; rw [← e]; exact Hg)
              clear hg3
              have HP2 := Lib.hid hP2
              clear hP2
              go_wp2
              go_roundw
              case rel => exact ⟨n + 1, _, by omega, by go_num, by rw [Int.natCast_add]; exact HP2.out, T, hbw⟩
              case measure => simp [intOf]; omega
        · have hlen := all_pm33 hP
          have hm8 := hm.out.trans hlen.symm
          have Hm8 := Lib.hid hm8
          have Hlen := Lib.hid hlen
          clear hlen hm8
          go_wp2_with fail
          refine (all_len _ T (Hm8.out.symm)).mono ?_
          rintro e7 w7 ⟨A3, C3, rfl, hb7⟩
          replace hbw := hbw.trans (hb7.mono hbw.size)
          go_wp2
          go_ret
          exact ⟨rfl, hbw⟩
end Go.Proofs.Ytglliiijeadhcaa
