/- New of both tables told in one word; what a script's deed is in memory; no conditions but those that each theorem names. -/
import Derived.Test.YtglliiijeadhcaaKg
import Derived.Deep.DeepCutAuto
import Derived.Deep.LoopGhost
namespace Go.Proofs.Ytglliiijeadhcaa
open Go.RowKit
set_option linter.unusedVariables false
variable {w w' : World} {B h : Nat} {tr ba ke ho : Int} {F : Nat → Pt}

theorem num_of (hb : ¬ NewBad tr ba ke ho) (b0 : 0 ≤ ba) (k0 : 0 ≤ ke) (o0 : 0 ≤ ho) : Num tr ba ke ho := by
  unfold NewBad at hb
  exact ⟨by omega, by omega, by omega, by omega, by omega, by omega, by omega, by omega⟩
instance (tr ba ke ho : Int) : Decidable (NewBad tr ba ke ho) := by unfold NewBad; infer_instance
theorem new_no (hb : NewBad tr ba ke ho) (b0 : 0 ≤ ba) (k0 : 0 ≤ ke) (o0 : 0 ≤ ho) (w : World) : Calls Try.prog 10 #[.int .i64 tr, .int .u64 ba, .int .u64 ke, .int .u64 ho] w fun e w' => e = .returned (.tuple #[.pointer none, .int .i64 1]) ∧ w = w' := by
  unfold NewBad at hb
  by_cases h1 : tr < 1 ∨ 8 < tr
  · exact new_tries w h1
  · by_cases h2 : ba = 0 ∨ ke = 0 ∨ ho = 0
    · exact new_zero w (by omega) (by omega) b0 k0 o0 h2
    · exact new_big w (by omega) (by omega) (by omega) (by omega) (by omega) (by omega)

/-- A deed as it lies in memory: six cells behind an address. -/
structure Deed where
  (k p i q n : Int)
  (r : Bool)
structure Deed.ok (d : Deed) : Prop where
  k0 : 0 ≤ d.k
  k1 : d.k ≤ 255
  n0 : 0 ≤ d.n
  i0 : 0 ≤ d.i
def DeedAt (w : World) (ad : Addr) (d : Deed) : Prop :=
  w.cell? ad = some (.int .u8 d.k) ∧ w.cell? (ad.add 1) = some (.int .i64 d.p) ∧ w.cell? (ad.add 2) = some (.int .u32 d.i) ∧ w.cell? (ad.add 3) = some (.int .u16 d.q) ∧ w.cell? (ad.add 4) = some (.int .u64 d.n) ∧ w.cell? (ad.add 5) = some (.bool d.r)
def Deeds (w : World) (A : Option Addr) (len : Nat) : Prop :=
  ∀ i, i < len → ∃ (b o : Nat) (d : Deed), A = some ⟨b, o, none⟩ ∧ b < w.heap.size ∧ d.ok ∧ w.cell? ⟨b, o + i * 6, none⟩ = some (.int .u8 d.k) ∧ w.cell? ⟨b, o + i * 6 + 1, none⟩ = some (.int .i64 d.p) ∧ w.cell? ⟨b, o + i * 6 + 2, none⟩ = some (.int .u32 d.i) ∧ w.cell? ⟨b, o + i * 6 + 3, none⟩ = some (.int .u16 d.q) ∧ w.cell? ⟨b, o + i * 6 + 4, none⟩ = some (.int .u64 d.n) ∧ w.cell? ⟨b, o + i * 6 + 5, none⟩ = some (.bool d.r)

theorem Tab.keepR {g : Nat} (T : Tab w g tr ba ke ho F) (K : KeepR B w w') : Tab w' g tr ba ke ho F := by
  obtain ⟨cs, hB, hr⟩ := T.has
  exact ⟨cs, K.k _ _ _ hB (by decide) (by decide), hr⟩
theorem RT.tab {g : Nat} {l : List Pt} {F' : Nat → Pt} (R : RT w B h tr ba ke ho l) (T : Tab w g tr ba ke ho F') (hg : w.grownBy w' (some g)) : RT w' B h tr ba ke ho l := by
  obtain ⟨cs, hB, _⟩ := T.has
  exact R.grown hg (fun i hi => by injection hi with hi; subst hi; exact ⟨72, cs, hB, by decide, by decide⟩)
theorem own_cap {N : Nat} {e : TypeId} {size n c : Nat} {A : Option Addr} {xs : List Value} (ho : w.ownsRow N e size (.slice A n c) n xs) : n ≤ c := by
  rcases ho.2 with ⟨h1, h2⟩ | ⟨g', cap, cur, hv, _, _, h1, _⟩
  · omega
  · injection hv with _ _ hc; omega
theorem goL_len (tr ba ke ho n : Int) (F : Nat → Pt) : (goL tr ba ke ho F n).length ≤ 33 := by
  unfold goL
  split
  · simp
  · rw [← lst_eq]; exact Nat.le_trans (sendL_len _ _ _ _ _ _) (lst_len F)

set_option maxRecDepth 100000 in
set_option maxHeartbeats 40000000 in
theorem plays_any (near : Bool) (A : Option Addr) (len c : Nat) (hc : len ≤ c) (hm : len ≤ maxLen) (b0 : 0 ≤ ba) (k0 : 0 ≤ ke) (o0 : 0 ≤ ho) (w : World) (HD : Deeds w A len) :
    Calls Try.prog 3 #[.int .i64 tr, .int .u64 ba, .int .u64 ke, .int .u64 ho, .bool near, .slice A len c] w fun e w' => e = .returned (.bool true) ∧ Below w.heap.size w w' := by
  unfold maxLen at hm
  have hbw := Below.refl w.heap.size w
  go_enter Try.func3, Try.ntmps3
  go_wp2_with fail
  refine (examples_any _).mono ?_
  rintro e1 w1 ⟨rfl, hb1⟩
  replace hbw := hbw.trans (hb1.mono hbw.size)
  clear hb1
  have HDh := Lib.hid HD
  clear HD
  go_upto_if 33 with (fail)
  go_cut [0, 1, 2, 3] (fun s0 s1 s2 s3 wx => ∃ tr' ba' ke' ho' : Int, s0 = .int .i64 tr' ∧ s1 = .int .u64 ba' ∧ s2 = .int .u64 ke' ∧ s3 = .int .u64 ho' ∧ 0 ≤ ba' ∧ 0 ≤ ke' ∧ 0 ≤ ho' ∧ Below w.heap.size w wx)
  case first =>
    go_wp2_with (fail)
    all_goals (go_meet; exact ⟨_, _, _, _, rfl, rfl, rfl, rfl, by omega, by omega, by omega, hbw⟩)
  case rest =>
    obtain ⟨tr', ba', ke', ho', rfl, rfl, rfl, rfl, b0', k0', o0', hbw⟩ := hcut
    by_cases hN : NewBad tr' ba' ke' ho'
    · go_wp2_with fail
      refine (new_no hN b0' k0' o0' _).mono ?_
      rintro e2 w2 ⟨rfl, rfl⟩
      go_wp2_with fail
      refine (rnew_no hN _).mono ?_
      rintro e3 w3 ⟨rfl, rfl⟩
      clear hN
      go_wp2
      go_ret
      exact ⟨rfl, hbw⟩
    · have N := num_of hN b0' k0' o0'
      have HN := Lib.hid N
      clear hN b0' k0' o0'
      go_wp2_with fail
      refine (new_ok N _).mono ?_
      rintro e2 w2 ⟨rfl, hb2, T⟩
      have Hg := hbw.size
      replace hbw := hbw.trans (hb2.mono Hg)
      clear hb2
      generalize wc.heap.size = g at *
      go_wp2_with fail
      refine (rnew_ok N _).mono ?_
      rintro e3 w3 ⟨rfl, R, hb3⟩
      have HB := hbw.size
      replace T := T.keep hb3
      replace hbw := hbw.trans (hb3.mono HB)
      clear hb3 N
      have hR0 : RT w3 w2.heap.size w2.heap.size tr' ba' ke' ho' (lst (fun _ => Pt.zero)) := by
        have : lst (fun _ => Pt.zero) = [] := by rw [lst_eq]; exact allL_none 33
        rw [this]; exact R
      clear R
      generalize w2.heap.size = h at *
      go_wp2_with fail
      go_loopg [17, 18] 80 (fun gk s17 s18 wx => ∃ (i : Nat) (nw : Int) (F : Nat → Pt), i ≤ len ∧ i ≤ 80 ∧ gk = 80 - i ∧ s17 = .int .u64 nw ∧ s18 = .int .i64 i ∧ 0 ≤ nw ∧ nw ≤ 5 * i ∧ WF tr' F ∧ Tab wx g tr' ba' ke' ho' F ∧ RT wx h h tr' ba' ke' ho' (lst F) ∧ Below w.heap.size w wx)
      case atStart => exact ⟨0, 0, fun _ => Pt.zero, by omega, by omega, rfl, rfl, rfl, by omega, by omega, WF.zero (by have := HN.out.t1; omega), T, hR0, hbw⟩
      case round =>
        clear T hR0 hbw
        obtain ⟨i, nw, F, hi, hi80, rfl, rfl, rfl, hw0, hw1, W, T, R, hbw⟩ := hrel
        by_cases hlt : i < len ∧ i < 80
        · obtain ⟨hl1, hl2⟩ := hlt
          obtain ⟨b, o, d, rfl, hbb, dok, e0, e1, e2, e3, e4, e5⟩ := HDh.out i hl1
          have hfr : ∀ k, wr.cell? ⟨b, k, none⟩ = w.cell? ⟨b, k, none⟩ := fun k => hbw.cell (p := ⟨b, k, none⟩) hbb
          have q0 := (hfr _).trans e0
          have q1 := (hfr _).trans e1
          have q2 := (hfr _).trans e2
          have q3 := (hfr _).trans e3
          have q4 := (hfr _).trans e4
          have q5 := (hfr _).trans e5
          clear e0 e1 e2 e3 e4 e5 hfr
          obtain ⟨dk, dp, di, dq, dn, dr⟩ := d
          obtain ⟨dk0, dk1, dn0, di0⟩ := dok
          dsimp only at q0 q1 q2 q3 q4 q5 dk0 dk1 dn0 di0
          go_upto_if 95 with (fail)
          go_cut [17, 20] (fun s17 s20 wx => ∃ (nw' at_ p ii q n : Int) (r : Bool), s17 = .int .u64 nw' ∧ s20 = .int .u64 at_ ∧ 0 ≤ at_ ∧ 0 ≤ nw' ∧ nw' ≤ 5 * (i + 1) ∧ Blk wx wr.heap.size 37 #[.int .u8 dk, .int .i64 p, .int .u32 ii, .int .u16 q, .int .u64 n, .bool r] ∧ Below wr.heap.size wr wx)
          case first =>
            as_aux_lemma =>
              go_wp2_with (fail)
              all_goals (go_meet; exact ⟨_, _, _, _, _, _, _, rfl, rfl, by omega, by omega, by omega, Blk.new _ _ _, (Below.refl _ _).alloc (Nat.le_refl _) _⟩)
          case rest =>
            obtain ⟨nw', at_, p, ii, q, n, r, rfl, rfl, ha0, hn0, hn1, B1, hb1⟩ := hcut
            have ng : wr.heap.size ≠ g := Nat.ne_of_gt T.lt
            replace T := T.keep hb1
            replace R := R.keep hb1
            replace hbw := hbw.trans (hb1.mono hbw.size)
            clear hb1 q0 q1 q2 q3 q4 q5 hw0 hw1 dn0 di0
            generalize wr.heap.size = u at B1 ng
            obtain ⟨c1, f1, z1⟩ := B1.all
            go_upto_block 2 with (fail)
            go_cut [21, 22, 23, 24, 163, 177, 196, 214] (fun s21 _ _ _ _ _ _ _ wx => s21 = .bool true ∧ ∃ F', WF tr' F' ∧ Tab wx g tr' ba' ke' ho' F' ∧ RT wx h h tr' ba' ke' ho' (lst F') ∧ Below w.heap.size w wx)
            case first =>
              by_cases hk : dk % 9 = 0
              · as_aux_lemma =>
                  have t0 : (dk % 9 == 0) = true := beq_iff_eq.2 hk
                  clear hk
                  go_wp2_with (fail)
                  clear c1 f1 z1
                  replace T := T.drew
                  replace R := R.drew
                  replace B1 := B1.drew
                  replace hbw := hbw.drew
                  go_region_held3 (fun w' => w'.cell? ⟨u, 1, none⟩ = some (.int .i64 p)) (first | exact B1.cell 1) (first | (go_at_call 12; refine (want_any p at_ _ T).mono ?_; rintro e1 w1 ⟨rfl, T', g'⟩; replace R := R.tab T g'; replace B1 := B1.only g' ng; replace hbw := hbw.grown g' hbw.size (fun _ e => by injection e with e; rw [← e]; exact Hg); replace T := T'; clear T' g') | (go_at_call 13; refine (rwant_any W p at_ _ R).mono ?_; rintro e1 w1 ⟨rfl, R', K'⟩; replace T := T.keepR K'; replace B1 := K'.k _ _ _ B1 (by decide) (by decide); replace hbw := hbw.trans (K'.b.mono HB); replace R := R'; clear R' K'))
                  all_goals
                    go_wp2_with (fail)
                    go_meet
                    exact ⟨rfl, _, W.want HN.out.t1 _ _, T, R, hbw⟩
              · by_cases hk : dk % 9 = 1
                · as_aux_lemma =>
                    have t0 : (dk % 9 == 0) = false := ne_b (by omega)
                    have t1 : (dk % 9 == 1) = true := beq_iff_eq.2 hk
                    clear hk
                    go_wp2_with (fail)
                    clear c1 f1 z1
                    replace T := T.drew
                    replace R := R.drew
                    replace B1 := B1.drew
                    replace hbw := hbw.drew
                    go_region_held3 (fun w' => w'.cell? ⟨u, 1, none⟩ = some (.int .i64 p)) (first | exact B1.cell 1) (first | (go_at_call 12; refine (want_any p at_ _ T).mono ?_; rintro e1 w1 ⟨rfl, T', g'⟩; replace R := R.tab T g'; replace B1 := B1.only g' ng; replace hbw := hbw.grown g' hbw.size (fun _ e => by injection e with e; rw [← e]; exact Hg); replace T := T'; clear T' g') | (go_at_call 13; refine (rwant_any W p at_ _ R).mono ?_; rintro e1 w1 ⟨rfl, R', K'⟩; replace T := T.keepR K'; replace B1 := K'.k _ _ _ B1 (by decide) (by decide); replace hbw := hbw.trans (K'.b.mono HB); replace R := R'; clear R' K'))
                    all_goals
                      go_wp2_with (fail)
                      go_meet
                      exact ⟨rfl, _, W.want HN.out.t1 _ _, T, R, hbw⟩
                · by_cases hk : dk % 9 = 2
                  · as_aux_lemma =>
                      have t0 : (dk % 9 == 0) = false := ne_b (by omega)
                      have t1 : (dk % 9 == 1) = false := ne_b (by omega)
                      have t2 : (dk % 9 == 2) = true := beq_iff_eq.2 hk
                      clear hk
                      go_wp2_with (fail)
                      clear c1 f1 z1
                      replace T := T.drew
                      replace R := R.drew
                      replace B1 := B1.drew
                      replace hbw := hbw.drew
                      go_region_held3 (fun w' => w'.cell? ⟨u, 1, none⟩ = some (.int .i64 p) ∧ w'.cell? ⟨u, 2, none⟩ = some (.int .u32 ii) ∧ w'.cell? ⟨u, 3, none⟩ = some (.int .u16 q)) (first | exact ⟨B1.cell 1, B1.cell 2, B1.cell 3⟩) (first | (go_at_call 14; refine (open_any HN.out p ii q at_ _ T ha0).mono ?_; rintro e1 w1 ⟨rfl, T', g'⟩; replace R := R.tab T g'; replace B1 := B1.only g' ng; replace hbw := hbw.grown g' hbw.size (fun _ e => by injection e with e; rw [← e]; exact Hg); replace T := T'; clear T' g') | (go_at_call 16; refine (rref ii q _).mono ?_; rintro e1 w1 ⟨rfl, hb'⟩; replace T := T.keep hb'; replace R := R.keep hb'; replace B1 := B1.keep hb'; replace hbw := hbw.trans (hb'.mono hbw.size); clear hb') | (go_at_call 15; refine (ropen_any HN.out W p ii q at_ _ R ha0).mono ?_; rintro e1 w1 ⟨rfl, R', K'⟩; replace T := T.keepR K'; replace B1 := K'.k _ _ _ B1 (by decide) (by decide); replace hbw := hbw.trans (K'.b.mono HB); replace R := R'; clear R' K'))
                      all_goals
                        go_wp2_with (fail)
                        go_meet
                        exact ⟨rfl, _, W.open_ HN.out.t1 _ _ _ _, T, R, hbw⟩
                  · by_cases hk : dk % 9 = 3
                    · as_aux_lemma =>
                        have t0 : (dk % 9 == 0) = false := ne_b (by omega)
                        have t1 : (dk % 9 == 1) = false := ne_b (by omega)
                        have t2 : (dk % 9 == 2) = false := ne_b (by omega)
                        have t3 : (dk % 9 == 3) = true := beq_iff_eq.2 hk
                        clear hk
                        go_wp2_with (fail)
                        clear c1 f1 z1
                        replace T := T.drew
                        replace R := R.drew
                        replace B1 := B1.drew
                        replace hbw := hbw.drew
                        go_region_held3 (fun w' => w'.cell? ⟨u, 1, none⟩ = some (.int .i64 p) ∧ w'.cell? ⟨u, 2, none⟩ = some (.int .u32 ii) ∧ w'.cell? ⟨u, 3, none⟩ = some (.int .u16 q)) (first | exact ⟨B1.cell 1, B1.cell 2, B1.cell 3⟩) (first | (go_at_call 14; refine (open_any HN.out p ii q at_ _ T ha0).mono ?_; rintro e1 w1 ⟨rfl, T', g'⟩; replace R := R.tab T g'; replace B1 := B1.only g' ng; replace hbw := hbw.grown g' hbw.size (fun _ e => by injection e with e; rw [← e]; exact Hg); replace T := T'; clear T' g') | (go_at_call 16; refine (rref ii q _).mono ?_; rintro e1 w1 ⟨rfl, hb'⟩; replace T := T.keep hb'; replace R := R.keep hb'; replace B1 := B1.keep hb'; replace hbw := hbw.trans (hb'.mono hbw.size); clear hb') | (go_at_call 15; refine (ropen_any HN.out W p ii q at_ _ R ha0).mono ?_; rintro e1 w1 ⟨rfl, R', K'⟩; replace T := T.keepR K'; replace B1 := K'.k _ _ _ B1 (by decide) (by decide); replace hbw := hbw.trans (K'.b.mono HB); replace R := R'; clear R' K'))
                        all_goals
                          go_wp2_with (fail)
                          go_meet
                          exact ⟨rfl, _, W.open_ HN.out.t1 _ _ _ _, T, R, hbw⟩
                    · by_cases hk : dk % 9 = 4
                      · as_aux_lemma =>
                          have t0 : (dk % 9 == 0) = false := ne_b (by omega)
                          have t1 : (dk % 9 == 1) = false := ne_b (by omega)
                          have t2 : (dk % 9 == 2) = false := ne_b (by omega)
                          have t3 : (dk % 9 == 3) = false := ne_b (by omega)
                          have t4 : (dk % 9 == 4) = true := beq_iff_eq.2 hk
                          clear hk
                          go_wp2_with (fail)
                          clear c1 f1 z1
                          replace T := T.drew
                          replace R := R.drew
                          replace B1 := B1.drew
                          replace hbw := hbw.drew
                          go_region_held3 (fun w' => w'.cell? ⟨u, 1, none⟩ = some (.int .i64 p) ∧ w'.cell? ⟨u, 2, none⟩ = some (.int .u32 ii) ∧ w'.cell? ⟨u, 3, none⟩ = some (.int .u16 q)) (first | exact ⟨B1.cell 1, B1.cell 2, B1.cell 3⟩) (first | (go_at_call 17; refine (heard_any HN.out p ii q at_ _ T ha0).mono ?_; rintro e1 w1 ⟨rfl, T', g'⟩; replace R := R.tab T g'; replace B1 := B1.only g' ng; replace hbw := hbw.grown g' hbw.size (fun _ e => by injection e with e; rw [← e]; exact Hg); replace T := T'; clear T' g') | (go_at_call 16; refine (rref ii q _).mono ?_; rintro e1 w1 ⟨rfl, hb'⟩; replace T := T.keep hb'; replace R := R.keep hb'; replace B1 := B1.keep hb'; replace hbw := hbw.trans (hb'.mono hbw.size); clear hb') | (go_at_call 18; refine (rheard_any HN.out W p ii q at_ _ R ha0).mono ?_; rintro e1 w1 ⟨rfl, R', K'⟩; replace T := T.keepR K'; replace B1 := K'.k _ _ _ B1 (by decide) (by decide); replace hbw := hbw.trans (K'.b.mono HB); replace R := R'; clear R' K'))
                          all_goals
                            go_wp2_with (fail)
                            go_meet
                            exact ⟨rfl, _, W.heard _ _ _ _, T, R, hbw⟩
                      · by_cases hk : dk % 9 = 5
                        · as_aux_lemma =>
                            have t0 : (dk % 9 == 0) = false := ne_b (by omega)
                            have t1 : (dk % 9 == 1) = false := ne_b (by omega)
                            have t2 : (dk % 9 == 2) = false := ne_b (by omega)
                            have t3 : (dk % 9 == 3) = false := ne_b (by omega)
                            have t4 : (dk % 9 == 4) = false := ne_b (by omega)
                            have t5 : (dk % 9 == 5) = true := beq_iff_eq.2 hk
                            clear hk
                            go_wp2_with (fail)
                            clear c1 f1 z1
                            replace T := T.drew
                            replace R := R.drew
                            replace B1 := B1.drew
                            replace hbw := hbw.drew
                            go_region_held3 (fun w' => w'.cell? ⟨u, 1, none⟩ = some (.int .i64 p)) (first | exact B1.cell 1) (first | (go_at_call 19; refine (lost_any p _ T).mono ?_; rintro e1 w1 ⟨rfl, T', g'⟩; replace R := R.tab T g'; replace B1 := B1.only g' ng; replace hbw := hbw.grown g' hbw.size (fun _ e => by injection e with e; rw [← e]; exact Hg); replace T := T'; clear T' g') | (go_at_call 20; refine (rlost_any W p _ R).mono ?_; rintro e1 w1 ⟨rfl, R', K'⟩; replace T := T.keepR K'; replace B1 := K'.k _ _ _ B1 (by decide) (by decide); replace hbw := hbw.trans (K'.b.mono HB); replace R := R'; clear R' K'))
                            all_goals
                              go_wp2_with (fail)
                              go_meet
                              exact ⟨rfl, _, W.lost HN.out.t1 _, T, R, hbw⟩
                        · as_aux_lemma =>
                            have t0 : (dk % 9 == 0) = false := ne_b (by omega)
                            have t1 : (dk % 9 == 1) = false := ne_b (by omega)
                            have t2 : (dk % 9 == 2) = false := ne_b (by omega)
                            have t3 : (dk % 9 == 3) = false := ne_b (by omega)
                            have t4 : (dk % 9 == 4) = false := ne_b (by omega)
                            have t5 : (dk % 9 == 5) = false := ne_b (by omega)
                            clear hk
                            go_wp2_with (fail)
                            clear c1 f1 z1
                            refine (go_any HN.out at_ _ T W ha0).mono ?_
                            rintro e1 w1 ⟨v1, rfl, T', own1, g'⟩
                            replace R := R.tab T g'
                            replace hbw := hbw.grown g' hbw.size (fun _ e => by injection e with e; rw [← e]; exact Hg)
                            replace T := T'
                            clear T' g'
                            obtain ⟨A1, cp1, rfl⟩ := own_form own1
                            go_wp2_with (fail)
                            refine (rgo_any HN.out W at_ _ R ha0).mono ?_
                            rintro e2 w2 ⟨v2, rfl, R', own2, K'⟩
                            replace T := T.keepR K'
                            replace own1 := own_keepR K' (by decide) (by decide) own1
                            replace hbw := hbw.trans (K'.b.mono HB)
                            replace R := R'
                            clear R' K'
                            obtain ⟨A2, cp2, rfl⟩ := own_form own2
                            have HS1 := Lib.hid (fun j hj => stepAt own1 (j := j) hj)
                            have HS2 := Lib.hid (fun j hj => stepAt own2 (j := j) hj)
                            have hcp1 : (goL tr' ba' ke' ho' F at_).length ≤ cp1 := own_cap own1
                            have hcp2 : (goL tr' ba' ke' ho' F at_).length ≤ cp2 := own_cap own2
                            have hln := goL_len tr' ba' ke' ho' at_ F
                            obtain ⟨ln, HL⟩ : ∃ ln, Hid ((goL tr' ba' ke' ho' F at_).length = ln) := ⟨_, Lib.hid rfl⟩
                            rw [HL.out] at hcp1 hcp2 hln
                            rw [HL.out]
                            clear own1 own2
                            go_wp2_with (fail)
                            go_loopg [21, 24] ln (fun gk s21 s24 wq => s21 = .bool true ∧ ∃ k m : Nat, k ≤ ln ∧ gk = ln - k ∧ s24 = .int .i64 k ∧ wq = w2.drewN m)
                            case atStart => exact ⟨rfl, 0, 0, by omega, rfl, rfl, rfl⟩
                            case round =>
                              obtain ⟨rfl, k, m, hk1, rfl, rfl, rfl⟩ := hrel
                              by_cases hkl : k < ln
                              · have hkL : k < (goL tr' ba' ke' ho' F at_).length := by rw [HL.out]; exact hkl
                                obtain ⟨r1, rfl, a0, a1, f3, z3⟩ := HS1.out k hkL
                                obtain ⟨r2, rfl, b0, b1, f4, z4⟩ := HS2.out k hkL
                                generalize ((goL tr' ba' ke' ho' F at_)[k]'hkL).1 = x1 at a0 b0
                                generalize ((goL tr' ba' ke' ho' F at_)[k]'hkL).2 = x2 at a1 b1
                                have e1 : (x1 == x1) = true := beq_self_eq_true x1
                                have e2 : (x2 == x2) = true := beq_self_eq_true x2
                                go_wp2_with (fail)
                                go_quiet (fail)
                                go_wp2
                                go_roundg (ln - (k + 1))
                                case measure => omega
                                case rel => exact ⟨rfl, k + 1, _, by omega, rfl, by go_num, rfl⟩
                              · obtain rfl : k = ln := by omega
                                go_wp2_with (fail)
                                go_meet
                                exact ⟨rfl, _, W.go HN.out.t1 _, T.drewN m, R.drewN m, below_drewN' hbw m⟩
            case rest =>
              as_aux_lemma =>
                obtain ⟨rfl, F', W', T', R', hbw'⟩ := hcut
                clear T R W hbw B1 c1 f1 z1 ng
                go_wp2_with (fail)
                refine (all_lst _ T').mono ?_
                rintro e1 w1 ⟨A, cp, ln, rfl, HL, hln, hb1, HP⟩
                replace T' := T'.keep hb1
                replace R' := R'.keep hb1
                replace hbw' := hbw'.trans (hb1.mono hbw'.size)
                clear hb1
                obtain ⟨A2, c2, ln2, HL2, hlc2, d0, d1, d2, d3, d4, f2, z2, hB2, HR⟩ := R'.facts
                obtain rfl : ln = ln2 := HL.out.symm.trans HL2.out
                clear d0 d1 d2 d3 HR
                go_wp2_with (fail)
                clear d4 f2 z2
                go_loopg [26] ln (fun gk s26 wq => ∃ k : Nat, k ≤ ln ∧ gk = ln - k ∧ s26 = .int .i64 k ∧ Tab wq g tr' ba' ke' ho' F' ∧ RT wq h h tr' ba' ke' ho' (lst F') ∧ RowP wq A (lst F') ∧ Below w.heap.size w wq)
                case atStart => exact ⟨0, by omega, rfl, rfl, T', R', HP, hbw'⟩
                case round =>
                  clear T' R' HP hbw'
                  obtain ⟨k, hk1, rfl, rfl, T, R, HP, hbw⟩ := hrel
                  by_cases hkl : k < ln
                  · obtain ⟨p0, y, hy, hF, hp1, hp2, hyb, hya⟩ := lst_at_get W' (j := k) (by rw [HL.out]; exact hkl)
                    obtain ⟨A3, c3, ln3, HL3, hlc3, d0, d1, d2, d3, d4, f2, z2, hB3, HR⟩ := R.facts
                    obtain rfl : ln = ln3 := HL.out.symm.trans HL3.out
                    obtain ⟨r2, y', rfl, hBr, nhr, hy', ⟨y0, y1, y2, y3, y4, y5, y6⟩, f3, z3⟩ := HR.out k hkl
                    obtain rfl : y' = y := by have := hy'.out; rw [hy] at this; exact (Option.some.inj this).symm
                    obtain ⟨ya, yb, yc, yd, ye, yf, yk⟩ := y'
                    dsimp only at hya hyb y0 y1 y2 y3 y4 y5 y6
                    subst hya
                    have hPA := HP k _ hy
                    obtain ⟨r1, rfl, ⟨x0, x1, x2, x3, x4, x5, x6⟩, f4, z4⟩ := hPA
                    dsimp only at x0 x1 x2 x3 x4 x5 x6
                    have HPP := Lib.hid HP
                    have HY := Lib.hid hy
                    have HY' := hy'
                    have HFF := Lib.hid hF
                    have Hyb := Lib.hid hyb
                    clear HP hy hy' hF HR hyb
                    go_wp2_with (fail)
                    go_still_tail 11, (by kernel_rfl)
                    change wpList _ _ _ _ _ wr.drew
                    go_wp2_with (fail)
                    refine (rsame ⟨p0, yb, yc, yd, ye, yf, yk⟩ _).mono ?_
                    rintro e2 w2 ⟨rfl, hb2⟩
                    have T2 := T.drew.keep hb2
                    have R2 := R.drew.keep hb2
                    have HP2 := RowP.keep (w := wr.drew) HPP.out hb2
                    have hbw2 := hbw.drew.trans (hb2.mono hbw.drew.size)
                    clear T R HPP hbw hb2 x0 x1 x2 x3 x4 x5 x6 f4 z4 y0 y1 y2 y3 y4 y5 y6 f3 z3 d0 d1 d2 d3 d4 f2 z2
                    obtain ⟨r3, hr3, ⟨x0, x1, x2, x3, x4, x5, x6⟩, f4, z4⟩ := HP2 k _ HY.out
                    injection hr3 with hr3
                    injection hr3 with hr3
                    subst hr3
                    dsimp only at x0 x1 x2 x3 x4 x5 x6
                    have HPP := Lib.hid HP2
                    clear HP2
                    go_wp2_with (fail)
                    refine (of_yes p0 ⟨p0, yb, yc, yd, ye, yf, yk⟩ _ T2 hp1 hp2 HFF.out Hyb.out).mono ?_
                    rintro e3 w3 ⟨rfl, hb3⟩
                    have T3 := T2.keep hb3
                    have R3 := R2.keep hb3
                    have HP3 := HPP.out.keep hb3
                    have hbw3 := hbw2.trans (hb3.mono hbw2.size)
                    clear T2 R2 HPP hbw2 hb3 x0 x1 x2 x3 x4 x5 x6 f4 z4
                    obtain ⟨r4, hr4, ⟨x0, x1, x2, x3, x4, x5, x6⟩, f4, z4⟩ := HP3 k _ HY.out
                    injection hr4 with hr4
                    injection hr4 with hr4
                    subst hr4
                    dsimp only at x0 x1 x2 x3 x4 x5 x6
                    have HPP := Lib.hid HP3
                    clear HP3
                    have nz : r1 ≠ w3.heap.size := Nat.ne_of_lt z4
                    have nz' := Ne.symm nz
                    go_wp2_with (fail)
                    go_quiet (fail)
                    go_wp2
                    go_roundg (ln - (k + 1))
                    case measure => omega
                    case rel => exact ⟨k + 1, by omega, rfl, by go_num, (T3.alloc _).drewN _, (R3.alloc _).drewN _, HPP.out.keep (below_drewN' ((Below.refl _ _).alloc (Nat.le_refl _) _) _), below_drewN' (hbw3.alloc hbw3.size _) _⟩
                  · obtain rfl : k = ln := by omega
                    go_wp2
                    go_roundg (80 - (i + 1))
                    case measure => omega
                    case rel => exact ⟨i + 1, nw', F', by omega, by omega, rfl, rfl, by go_num, by omega, by simp; omega, W', T, R, hbw⟩
        · as_aux_lemma =>
            by_cases h1 : i < len
            · obtain rfl : i = 80 := by omega
              have g1 : decide (((80 : Nat) : Int) < 80) = false := by decide
              go_wp2
              go_ret
              exact ⟨rfl, hbw⟩
            · go_wp2
              go_ret
              exact ⟨rfl, hbw⟩
end Go.Proofs.Ytglliiijeadhcaa
