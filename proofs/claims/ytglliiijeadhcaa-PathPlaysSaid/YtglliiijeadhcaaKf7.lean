/- The reference's Due: what it answers and what becomes of its table; no conditions but those that each theorem names. -/
import Derived.Test.YtglliiijeadhcaaKf6
namespace Go.Proofs.Ytglliiijeadhcaa
open Go.RowKit
set_option linter.unusedVariables false
variable {w w' : World} {B h : Nat} {tr ba ke ho : Int} {F : Nat → Pt}

/-- The list when the first i paths have gone on. -/
def mix (tr ba ke ho n : Int) (l : List Pt) (i : Nat) : List Pt := (l.take i).map (fun x => (stepF tr ba ke ho n x).1) ++ l.drop i
theorem mix_zero (tr ba ke ho n : Int) (l : List Pt) : mix tr ba ke ho n l 0 = l := rfl
theorem mix_len (tr ba ke ho n : Int) (l : List Pt) (i : Nat) : (mix tr ba ke ho n l i).length = l.length := by
  unfold mix; rw [List.length_append, List.length_map, List.length_take, List.length_drop]; omega
theorem mix_all (tr ba ke ho n : Int) (l : List Pt) : mix tr ba ke ho n l l.length = l.map (fun x => (stepF tr ba ke ho n x).1) := by
  unfold mix; rw [List.take_length, List.drop_length, List.append_nil]
theorem mix_get (tr ba ke ho n : Int) (l : List Pt) {i : Nat} (hi : i < l.length) : (mix tr ba ke ho n l i)[i]? = some l[i] := by
  unfold mix
  rw [List.getElem?_append_right (by rw [List.length_map, List.length_take]; omega), List.length_map, List.length_take, List.getElem?_drop, show i + (i - min i l.length) = i by omega, List.getElem?_eq_getElem hi]
theorem mix_set (tr ba ke ho n : Int) (l : List Pt) {i : Nat} (hi : i < l.length) : (mix tr ba ke ho n l i).set i (stepF tr ba ke ho n l[i]).1 = mix tr ba ke ho n l (i + 1) := by
  unfold mix
  rw [List.set_append_right _ _ (by rw [List.length_map, List.length_take]; omega), List.length_map, List.length_take, show i - min i l.length = 0 by omega,
    List.drop_eq_getElem_cons hi, List.set_cons_zero, List.take_succ_eq_append_getElem hi, List.map_append, List.append_assoc]
  rfl
theorem sendL_succ (tr ba ke ho n : Int) (l : List Pt) {i : Nat} (hi : i < l.length) : sendL tr ba ke ho n (l.take (i + 1)) = sendL tr ba ke ho n (l.take i) ++ (if 0 < (stepF tr ba ke ho n l[i]).2 then [((l[i]).a, (stepF tr ba ke ho n l[i]).2)] else []) := by
  rw [List.take_succ_eq_append_getElem hi, sendL_append, sendL, sendL, List.append_nil]
theorem KeepR.grownAt {a w w' : World} {row : Option Nat} (K : KeepR B a w) (hg : w.grownBy w' row) (hB : B ≤ a.heap.size) (hr : ∀ k, row = some k → a.heap.size ≤ k) : KeepR B a w' :=
  ⟨K.b.grown hg (Nat.le_trans hB K.b.size) (fun k e => Nat.le_trans hB (hr k e)), fun i t cs hi h1 h2 => (K.k i t cs hi h1 h2).grown hg (fun e => by have := hr i e; have := hi.lt; omega)⟩
theorem own_keepR {w1 w2 : World} {N size n : Nat} {e : TypeId} {v : Value} {xs : List Value} (K : KeepR B w1 w2) (h1 : e ≠ 58) (h2 : e ≠ 63) (ho : w1.ownsRow N e size v n xs) : w2.ownsRow N e size v n xs := by
  refine ⟨ho.1, ?_⟩
  rcases ho.2 with q | ⟨g', cap, cur, hv, q1, q2, r⟩
  · exact .inl q
  · have hG : Blk w1 g' e cur := ⟨q2⟩
    exact .inr ⟨g', cap, cur, hv, q1, (K.k g' e cur hG h1 h2).out, r⟩
theorem RT.own53 {l : List Pt} {w1 w2 : World} {N n : Nat} {v : Value} {xs : List Value} (R : RT w1 B h tr ba ke ho l) (hw : w1.ownsRow N 53 2 v n xs) (hg : w1.grownBy w2 v.ownBlock) : RT w2 B h tr ba ke ho l := by
  refine R.grown hg (fun i hi => ?_)
  rcases hw.2 with ⟨rfl, _⟩ | ⟨g', cap, cur, rfl, q1, q2, _⟩
  · cases hi
  · have : g' = i := by simpa [Value.ownBlock] using hi
    subst this
    exact ⟨53, cur, ⟨q2⟩, by decide, by decide⟩
theorem info53 : (Try.prog.info? 53).map (fun i => (i.zero, i.size, i.bytes)) = some (some (.agg #[.int .i64 0, .int .i64 0]), 2, 16) := by kernel_rfl
/-- What holds at a round's head. -/
structure DR (w : World) (B h : Nat) (tr ba ke ho n : Int) (l : List Pt) (i : Nat) (v : Value) (wr : World) : Prop where
  R : RT wr B h tr ba ke ho (mix tr ba ke ho n l i)
  own : wr.ownsRow w.heap.size 53 2 v (sendL tr ba ke ho n (l.take i)).length (sends (sendL tr ba ke ho n (l.take i)))
  K : KeepR B w wr
theorem DR.still {n : Int} {l : List Pt} {i : Nat} {v : Value} {wr w2 : World} (D : DR w B h tr ba ke ho n l i v wr) (hi : i < l.length) (hq : (stepF tr ba ke ho n l[i]).2 = 0) (hK : KeepR B wr w2) (hR : RT w2 B h tr ba ke ho (mix tr ba ke ho n l (i + 1))) : DR w B h tr ba ke ho n l (i + 1) v w2 := by
  refine ⟨hR, ?_, D.K.trans hK⟩
  rw [sendL_succ _ _ _ _ _ _ hi, if_neg (by omega), List.append_nil]
  exact own_keepR hK (by decide) (by decide) D.own
theorem DR.more {n : Int} {l : List Pt} {i : Nat} {v v' : Value} {wr w2 w3 : World} {o : Obj} (D : DR w B h tr ba ke ho n l i v wr) (hB : B ≤ w.heap.size) (hi : i < l.length) (hq : 0 < (stepF tr ba ke ho n l[i]).2) (hK : KeepR B wr w2) (hR : RT w2 B h tr ba ke ho (mix tr ba ke ho n l (i + 1)))
    (hown : w3.ownsRow w.heap.size 53 2 v' ((sendL tr ba ke ho n (l.take i)).length + 1) (sends (sendL tr ba ke ho n (l.take i)) ++ [.int .i64 (l[i]).a, .int .i64 (stepF tr ba ke ho n l[i]).2])) (hgr : (w2.alloc o).grownBy w3 v.ownBlock) : DR w B h tr ba ke ho n l (i + 1) v' w3 := by
  have ho2 := (own_keepR hK (by decide) (by decide) D.own).alloc o
  have hB2 : B ≤ w2.heap.size := Nat.le_trans hB (Nat.le_trans D.K.b.size hK.b.size)
  refine ⟨(hR.alloc o).own53 ho2 hgr, ?_, ((D.K.trans hK).alloc hB2 o).grownAt hgr hB (fun k e => (ho2.lt k e).1)⟩
  rw [sendL_succ _ _ _ _ _ _ hi, if_pos hq, sends_append, List.length_append]
  exact hown
theorem Blk.drewN' {w : World} {g : Nat} {t : TypeId} {cs : Array Value} (h : Blk w g t cs) (n : Nat) : Blk (w.drewN n) g t cs := ⟨h.out⟩
theorem new_set (w : World) (p : Addr) (u : Value) (t : TypeId) (cs : Array Value) : Blk ((w.setCell p u).alloc (.cells cs t)) w.heap.size t cs := by
  have := Blk.new (w.setCell p u) t cs
  rwa [show (w.setCell p u).heap.size = w.heap.size by simp [World.setCell]] at this
theorem whole7 {L L' : List Pt} {wr W1 : World} {r c len i g : Nat} {cs : Array Value} (D : RT wr B h tr ba ke ho L) (hln : L.length = len) (d4 : wr.cell? ⟨h, 4, none⟩ = some (.slice (some ⟨r, 0, none⟩) len c)) (hh : h < wr.heap.size) (hi : i < len) (hb : Below wr.heap.size wr W1)
    (B1 : Blk W1 g 63 cs) (hgr : g ≠ r) (x : Pt) (hset : L.set i x = L') :
    RT (((((((W1.setCell ⟨r, i * 7, none⟩ (.int .i64 x.a)).setCell ⟨r, i * 7 + 1, none⟩ (.int .i64 x.b)).setCell ⟨r, i * 7 + 2, none⟩ (.int .i64 x.c)).setCell ⟨r, i * 7 + 3, none⟩ (.int .u32 x.d)).setCell ⟨r, i * 7 + 4, none⟩ (.int .u16 x.e)).setCell ⟨r, i * 7 + 5, none⟩ (.int .u64 x.f)).setCell ⟨r, i * 7 + 6, none⟩ (.int .u64 x.k)) B h tr ba ke ho L' ∧ KeepR B wr (((((((W1.setCell ⟨r, i * 7, none⟩ (.int .i64 x.a)).setCell ⟨r, i * 7 + 1, none⟩ (.int .i64 x.b)).setCell ⟨r, i * 7 + 2, none⟩ (.int .i64 x.c)).setCell ⟨r, i * 7 + 3, none⟩ (.int .u32 x.d)).setCell ⟨r, i * 7 + 4, none⟩ (.int .u16 x.e)).setCell ⟨r, i * 7 + 5, none⟩ (.int .u64 x.f)).setCell ⟨r, i * 7 + 6, none⟩ (.int .u64 x.k)) ∧ Blk (((((((W1.setCell ⟨r, i * 7, none⟩ (.int .i64 x.a)).setCell ⟨r, i * 7 + 1, none⟩ (.int .i64 x.b)).setCell ⟨r, i * 7 + 2, none⟩ (.int .i64 x.c)).setCell ⟨r, i * 7 + 3, none⟩ (.int .u32 x.d)).setCell ⟨r, i * 7 + 4, none⟩ (.int .u16 x.e)).setCell ⟨r, i * 7 + 5, none⟩ (.int .u64 x.f)).setCell ⟨r, i * 7 + 6, none⟩ (.int .u64 x.k)) g 63 cs := by
  have R1 := D.keep hb
  have d4' := (hb.cell (p := ⟨h, 4, none⟩) hh).trans d4
  rw [← hln] at d4' hi
  obtain ⟨h1, h2⟩ := R1.put7 d4' hi x
  rw [hset] at h1
  have far : ∀ {W : World} {t cs} (o : Nat) (u : Value), Blk W g t cs → Blk (W.setCell ⟨r, o, none⟩ u) g t cs := fun o u hq => hq.far (p := ⟨r, o, none⟩) hgr u
  exact ⟨h1, ((KeepR.refl B wr).keep hb D.hb).trans h2, far _ _ (far _ _ (far _ _ (far _ _ (far _ _ (far _ _ (far _ _ B1))))))⟩
theorem set_same {l : List Pt} {i : Nat} {y : Pt} (h : l[i]? = some y) : l.set i y = l := by
  obtain ⟨hi, rfl⟩ := List.getElem?_eq_some_iff.1 h
  exact List.set_getElem_self hi
theorem get_of {l : List Pt} {i : Nat} {x : Pt} (h : l[i]? = some x) : ∃ hi : i < l.length, l[i] = x := List.getElem?_eq_some_iff.1 h

set_option maxRecDepth 100000 in
set_option maxHeartbeats 4000000 in
theorem rdue (N : Num tr ba ke ho) (n : Int) (w : World) (l : List Pt) (R : RT w B h tr ba ke ho l) (hl : l.length ≤ 33) (hc : ∀ x, x ∈ l → 0 ≤ x.c ∧ x.c ≤ tr) (h0 : 0 ≤ n) (h3 : n ≤ 4611686018427387904) :
    Calls Try.prog 22 #[.pointer (some ⟨h, 0, none⟩), .int .u64 n] w fun e w' => ∃ v, e = .returned v ∧ DR w B h tr ba ke ho n l l.length v w' := by
  have t1 := N.t1; have t2 := N.t2; have b1 := N.b1; have b2 := N.b2; have k1 := N.k1; have k2 := N.k2; have o1 := N.o1; have o2 := N.o2
  have hB := R.hb
  obtain ⟨i0, hi, hz0, hz1, hz2⟩ := info_parts info53
  have Hi := Lib.hid hi
  have Hz0 := Lib.hid hz0
  have Hz1 := Lib.hid hz1
  have Hz2 := Lib.hid hz2
  have HC := Lib.hid hc
  clear hi hz0 hz1 hz2 hc
  obtain ⟨len, HL⟩ : ∃ len, Hid (l.length = len) := ⟨_, Lib.hid rfl⟩
  rw [HL.out] at hl
  rw [show l.length = len from HL.out]
  go_enter Try.func22, Try.ntmps22
  go_wp2_with fail
  go_loopw [5, 6] (fun v5 v6 wr => ∃ i : Nat, i ≤ len ∧ v6 = .int .i64 i ∧ DR w B h tr ba ke ho n l i v5 wr) (fun _ v6 _ => len - (intOf v6).toNat)
  case atStart => exact ⟨0, by omega, rfl, R, ⟨rfl, .inl ⟨rfl, rfl⟩⟩, KeepR.refl _ _⟩
  case round =>
    obtain ⟨i, hi, rfl, D⟩ := hrel
    have hs2 : w.heap.size ≤ wr.heap.size := D.K.b.size
    obtain ⟨A, c, ln, HLn, hlc, d0, d1, d2, d3, d4, f2, z2, hB1, HR⟩ := D.R.facts
    obtain rfl : len = ln := by have := HLn.out; rw [mix_len, HL.out] at this; exact this
    by_cases hlt : i < len
    · obtain ⟨r, y, rfl, hBr, nhr, hy, ⟨y0, y1, y2, y3, y4, y5, y6⟩, f3, z3⟩ := HR.out i hlt
      have hil : i < l.length := by rw [HL.out]; exact hlt
      have hyy : l[i] = y := by have := hy.out; rw [mix_get _ _ _ _ _ _ hil] at this; exact Option.some.inj this
      have nh := Ne.symm nhr
      have n1 : wr.heap.size ≠ h := by omega
      have n2 : h ≠ wr.heap.size := by omega
      have n3 : wr.heap.size ≠ r := by omega
      have n4 : r ≠ wr.heap.size := by omega
      have hset := mix_set tr ba ke ho n l hil
      have hst := fun w2 hq hK hR => D.still (w2 := w2) hil hq hK hR
      have hmo := fun v' o w2 w3 hq hK hR hown hgr => D.more (v' := v') (o := o) (w2 := w2) (w3 := w3) hB hil hq hK hR hown hgr
      have hput := fun x => D.R.put7 (r := r) (c := c) (j := i) (by rw [HLn.out]; exact d4) (by rw [HLn.out]; exact hlt) x
      have hown := D.own
      have hlen : (sendL tr ba ke ho n (l.take i)).length ≤ 33 := Nat.le_trans (sendL_len _ _ _ _ _ _) (by rw [List.length_take]; omega)
      have hcy := HC.out y (by rw [← hyy]; exact List.getElem_mem hil)
      rw [hyy] at hset
      simp only [hyy] at hst hmo
      obtain ⟨lo, HLO⟩ : ∃ lo, Hid ((sendL tr ba ke ho n (l.take i)).length = lo) := ⟨_, Lib.hid rfl⟩
      obtain ⟨xs, HXS⟩ : ∃ xs, Hid (sends (sendL tr ba ke ho n (l.take i)) = xs) := ⟨_, Lib.hid rfl⟩
      rw [HLO.out] at hlen hown
      rw [HXS.out] at hown
      simp only [HLO.out, HXS.out] at hmo
      have HMO := Lib.hid hmo
      have HST := Lib.hid hst
      have HPUT := Lib.hid hput
      have HSET := Lib.hid hset
      have HOWN := Lib.hid hown
      have HDR := Lib.hid D.R
      clear hmo hst hput hset hown D HR hil hyy
      by_cases ca : n < y.f
      · have hs : stepF tr ba ke ho n y = (y, 0) := by unfold stepF; rw [if_pos ca]
        have HD := Lib.hid (HST.out (wr.alloc (.cells #[.int .i64 y.a, .int .i64 y.b, .int .i64 y.c, .int .u32 y.d, .int .u16 y.e, .int .u64 y.f, .int .u64 y.k] 63)) (by rw [hs]) ((KeepR.refl _ _).alloc hB1 _) (by have := HSET.out; rw [hs, set_same hy.out] at this; rw [← this]; exact HDR.out.alloc _))
        clear hs
        go_wp2
        go_roundw
        case rel => exact ⟨i + 1, by omega, by go_num, HD.out⟩
        case measure => simp [intOf]; omega
      · by_cases cb : y.b = 3 ∧ n < y.k
        · have hs : stepF tr ba ke ho n y = ({ y with f := n + ke }, 2) := by unfold stepF; rw [if_neg ca, if_pos cb]
          have HM := Lib.hid (fun v' o w2 w3 hK hR hown hgr => HMO.out v' o w2 w3 (by rw [hs]; exact (show (0 : Int) < 2 by decide)) hK hR hown hgr)
          rw [hs] at HM
          have hset := HSET.out
          rw [hs] at hset
          have Hset := Lib.hid hset
          clear hs hset
          obtain ⟨cb1, cb2⟩ := cb
          rw [cb1] at y1
          have q1 : decide (n < y.k) = true := decide_eq_true cb2
          have hP := HDR.out.put1 (r := r) (c := c) (j := i) HLn.out d4 (by rw [HLn.out]; exact hlt) (i := 5) (by omega) { y with f := n + ke } (.int .u64 (n + ke)) rfl (fun q hq hn => by rw [(get_of hy.out).2]; match q, hq, hn with | 0, _, _ | 1, _, _ | 2, _, _ | 3, _, _ | 4, _, _ | 6, _, _ => rfl)
          rw [Hset.out] at hP
          have HP := Lib.hid hP
          have HB := Lib.hid (new_set wr ⟨r, i * 7 + 5, none⟩ (.int .u64 (n + ke)) 63 #[.int .i64 y.a, .int .i64 3, .int .i64 y.c, .int .u32 y.d, .int .u16 y.e, .int .u64 y.f, .int .u64 y.k]).drew
          have Cb1 := Lib.hid cb1
          clear cb1 hP
          go_wp2_with fail
          go_region
          go_upto_region 11 with (fail)
          refine wp_world (fun W => Hid (RT W B h tr ba ke ho (mix tr ba ke ho n l (i + 1))) ∧ Hid (KeepR B wr W) ∧ Blk W wr.heap.size 63 #[.int .i64 y.a, .int .i64 3, .int .i64 y.c, .int .u32 y.d, .int .u16 y.e, .int .u64 y.f, .int .u64 y.k]) ⟨Lib.hid (HP.out.1.alloc _).drew, Lib.hid (HP.out.2.alloc (by simpa [World.setCell] using hB1) _).drew, HB.out⟩ ?_
          clear HP HB d0 d1 d2 d3 d4 f2 z2 y0 y1 y2 y3 y4 y5 y6 f3 z3
          rintro w2 ⟨hR2, hK2, hB2⟩
          have hown2 := own_keepR hK2.out (by decide) (by decide) HOWN.out
          have hs22 := hK2.out.b.size
          obtain ⟨c7, f7, z7⟩ := hB2.all
          go_wp2_with (at_builtin; refine wpList_append_own _ rfl (.tmp 52) (.tmp 56) 49 rfl w.heap.size 53 i0 (.agg #[.int .i64 0, .int .i64 0]) 2 16 Try.underlying49 Hi.out Hz0.out Hz1.out Hz2.out rfl (by decide) u5 lo xs rfl (hown2.alloc _) ⟨w2.heap.size, 0, none⟩ 1 1 [.int .i64 y.a, .int .i64 2] rfl rfl ?c1 ?c2 ?c3 ?c4 ?c5 ?_)
          case c1 => exact two_new _ _ _ _
          case c2 => intro u hu; simp only [List.mem_cons, List.not_mem_nil, or_false] at hu; rcases hu with rfl | rfl <;> rfl
          case c3 => unfold maxLen; omega
          case c4 => omega
          case c5 => rw [World.size_alloc]; omega
          intro v' w3 hown' hgrow hnn
          have D2 := HM.out v' _ w2 w3 hK2.out hR2.out hown' hgrow
          clear hown' hgrow hnn hown2 hK2 hR2 HM
          go_wp2
          go_roundw
          case rel => exact ⟨i + 1, by omega, by go_num, D2⟩
          case measure => simp [intOf]; omega
        · by_cases cd : y.b = 2
          · by_cases ce : tr ≤ y.c
            · have hs : stepF tr ba ke ho n y = (⟨y.a, 1, y.c, 0, 0, n + ho, 0⟩, 0) := by unfold stepF; rw [if_neg ca, if_neg cb, if_pos ⟨cd, ce⟩]
              have HM := Lib.hid (fun w2 hK hR => HST.out w2 (by rw [hs]) hK hR)
              have hset := HSET.out
              rw [hs] at hset
              have Hset := Lib.hid hset
              clear hs hset
              rw [cd] at y1
              have q3 : decide (tr ≤ y.c) = true := decide_eq_true ce
              have Cb := Lib.hid cb
              have Cd := Lib.hid cd
              clear cb cd
              go_wp2_with fail
              go_quiet (fail)
              go_wp2_with fail
              go_region
              go_upto_region 6 with (fail)
              have hP := whole7 (W1 := (wr.alloc (.cells #[.int .i64 y.a, .int .i64 2, .int .i64 y.c, .int .u32 y.d, .int .u16 y.e, .int .u64 y.f, .int .u64 y.k] 63)).drewN (nq + 1)) (cs := #[.int .i64 y.a, .int .i64 2, .int .i64 y.c, .int .u32 y.d, .int .u16 y.e, .int .u64 y.f, .int .u64 y.k]) HDR.out HLn.out d4 z2 hlt ((below_drewN' ((Below.refl wr.heap.size wr).alloc (Nat.le_refl _) _) (nq + 1))) ((Blk.new wr 63 #[.int .i64 y.a, .int .i64 2, .int .i64 y.c, .int .u32 y.d, .int .u16 y.e, .int .u64 y.f, .int .u64 y.k]).drewN' (nq + 1)) n3 ⟨y.a, 1, y.c, 0, 0, (n + ho), 0⟩ Hset.out
              have HP := Lib.hid hP
              clear hP
              refine wp_world (fun W => Hid (DR w B h tr ba ke ho n l (i + 1) u5 W)) (Lib.hid (HM.out _ HP.out.2.1 HP.out.1)) ?_
              clear HP d0 d1 d2 d3 d4 f2 z2 y0 y1 y2 y3 y4 y5 y6 f3 z3 HM
              rintro w2 hD
              go_wp2
              go_roundw
              case rel => exact ⟨i + 1, by omega, by go_num, hD.out⟩
              case measure => simp [intOf]; omega
            · have hs : stepF tr ba ke ho n y = (⟨y.a, 2, y.c + 1, y.d, y.e, n + ba * 2 ^ y.c.toNat, y.k⟩, 1) := by unfold stepF; rw [if_neg ca, if_neg cb, if_neg (fun q => ce q.2), if_pos cd, ← cd]
              have HM := Lib.hid (fun v' o w2 w3 hK hR hown hgr => HMO.out v' o w2 w3 (by rw [hs]; exact (show (0 : Int) < 1 by decide)) hK hR hown hgr)
              rw [hs] at HM
              have hset := HSET.out
              rw [hs] at hset
              have Hset := Lib.hid hset
              clear hs hset
              rw [cd] at y1
              have q3 : decide (tr ≤ y.c) = false := decide_eq_false ce
              have Cb := Lib.hid cb
              have Cd := Lib.hid cd
              have hc1 := hcy.1
              clear cb cd
              go_wp2_with fail
              go_quiet (fail)
              go_wp2_with fail
              go_region
              rw [shl_in (by omega) b2 h0 h3 hc1 (by omega)]
              go_wp2_with fail
              go_region
              go_upto_region 19 with (fail)
              have hP := whole7 (W1 := (((wr.alloc (.cells #[.int .i64 y.a, .int .i64 2, .int .i64 y.c, .int .u32 y.d, .int .u16 y.e, .int .u64 y.f, .int .u64 y.k] 63)).drewN nq).setCell ⟨wr.heap.size, 2, none⟩ (.int .i64 (y.c + 1))).setCell ⟨wr.heap.size, 5, none⟩ (.int .u64 (n + ba * 2 ^ y.c.toNat))) (cs := #[.int .i64 y.a, .int .i64 2, .int .i64 (y.c + 1), .int .u32 y.d, .int .u16 y.e, .int .u64 (n + ba * 2 ^ y.c.toNat), .int .u64 y.k]) HDR.out HLn.out d4 z2 hlt ((((below_drewN' ((Below.refl wr.heap.size wr).alloc (Nat.le_refl _) _) nq)).setCell (p := ⟨wr.heap.size, 2, none⟩) (Nat.le_refl _) (.int .i64 (y.c + 1))).setCell (p := ⟨wr.heap.size, 5, none⟩) (Nat.le_refl _) (.int .u64 (n + ba * 2 ^ y.c.toNat))) ((((Blk.new wr 63 #[.int .i64 y.a, .int .i64 2, .int .i64 y.c, .int .u32 y.d, .int .u16 y.e, .int .u64 y.f, .int .u64 y.k]).drewN' nq).put 2 (.int .i64 (y.c + 1)) rfl).put 5 (.int .u64 (n + ba * 2 ^ y.c.toNat)) rfl) n3 ⟨y.a, 2, (y.c + 1), y.d, y.e, (n + ba * 2 ^ y.c.toNat), y.k⟩ Hset.out
              have HP := Lib.hid hP
              clear hP
              refine wp_world (fun W => Hid (RT W B h tr ba ke ho (mix tr ba ke ho n l (i + 1))) ∧ Hid (KeepR B wr W) ∧ Blk W wr.heap.size 63 #[.int .i64 y.a, .int .i64 2, .int .i64 (y.c + 1), .int .u32 y.d, .int .u16 y.e, .int .u64 (n + ba * 2 ^ y.c.toNat), .int .u64 y.k]) ⟨Lib.hid HP.out.1.drew.drew, Lib.hid HP.out.2.1.drew.drew, HP.out.2.2.drew.drew⟩ ?_
              clear HP d0 d1 d2 d3 d4 f2 z2 y0 y1 y2 y3 y4 y5 y6 f3 z3
              rintro w2 ⟨hR2, hK2, hB2⟩
              have hown2 := own_keepR hK2.out (by decide) (by decide) HOWN.out
              have hs22 := hK2.out.b.size
              obtain ⟨c7, f7, z7⟩ := hB2.all
              go_wp2_with (at_builtin; refine wpList_append_own _ rfl (.tmp 110) (.tmp 114) 49 rfl w.heap.size 53 i0 (.agg #[.int .i64 0, .int .i64 0]) 2 16 Try.underlying49 Hi.out Hz0.out Hz1.out Hz2.out rfl (by decide) u5 lo xs rfl (hown2.alloc _) ⟨w2.heap.size, 0, none⟩ 1 1 [.int .i64 y.a, .int .i64 1] rfl rfl ?c1 ?c2 ?c3 ?c4 ?c5 ?_)
              case c1 => exact two_new _ _ _ _
              case c2 => intro u hu; simp only [List.mem_cons, List.not_mem_nil, or_false] at hu; rcases hu with rfl | rfl <;> rfl
              case c3 => unfold maxLen; omega
              case c4 => omega
              case c5 => rw [World.size_alloc]; omega
              intro v' w3 hown' hgrow hnn
              have D2 := HM.out v' _ w2 w3 hK2.out hR2.out hown' hgrow
              clear hown' hgrow hnn hown2 hK2 hR2 HM
              go_wp2
              go_roundw
              case rel => exact ⟨i + 1, by omega, by go_num, D2⟩
              case measure => simp [intOf]; omega
          · by_cases c3 : y.b = 3
            · have hs : stepF tr ba ke ho n y = (⟨y.a, 2, 1, 0, 0, n + ba, 0⟩, 1) := by unfold stepF; rw [if_neg ca, if_neg cb, if_neg (fun q => cd q.1), if_neg cd]
              have HM := Lib.hid (fun v' o w2 w3 hK hR hown hgr => HMO.out v' o w2 w3 (by rw [hs]; exact (show (0 : Int) < 1 by decide)) hK hR hown hgr)
              rw [hs] at HM
              have hset := HSET.out
              rw [hs] at hset
              have Hset := Lib.hid hset
              clear hs hset
              have q1 : decide (n < y.k) = false := decide_eq_false (fun q => cb ⟨c3, q⟩)
              rw [c3] at y1
              have C3 := Lib.hid c3
              clear c3
              have q2 : (y.b != 2) = true := ne_t cd
              have q3 : decide (tr ≤ 0) = false := decide_eq_false (by omega)
              have Cb := Lib.hid cb
              have Cd := Lib.hid cd
              clear cb cd
              go_wp2_with fail
              go_quiet (fail)
              go_wp2_with fail
              go_region
              go_wp2_with fail
              go_region
              go_upto_region 19 with (fail)
              have hP := whole7 (W1 := (((wr.alloc (.cells #[.int .i64 y.a, .int .i64 2, .int .i64 0, .int .u32 0, .int .u16 0, .int .u64 0, .int .u64 0] 63)).drewN nq).setCell ⟨wr.heap.size, 2, none⟩ (.int .i64 1)).setCell ⟨wr.heap.size, 5, none⟩ (.int .u64 (n + ba))) (cs := #[.int .i64 y.a, .int .i64 2, .int .i64 1, .int .u32 0, .int .u16 0, .int .u64 (n + ba), .int .u64 0]) HDR.out HLn.out d4 z2 hlt ((((below_drewN' ((Below.refl wr.heap.size wr).alloc (Nat.le_refl _) _) nq)).setCell (p := ⟨wr.heap.size, 2, none⟩) (Nat.le_refl _) (.int .i64 1)).setCell (p := ⟨wr.heap.size, 5, none⟩) (Nat.le_refl _) (.int .u64 (n + ba))) ((((Blk.new wr 63 #[.int .i64 y.a, .int .i64 2, .int .i64 0, .int .u32 0, .int .u16 0, .int .u64 0, .int .u64 0]).drewN' nq).put 2 (.int .i64 1) rfl).put 5 (.int .u64 (n + ba)) rfl) n3 ⟨y.a, 2, 1, 0, 0, (n + ba), 0⟩ Hset.out
              have HP := Lib.hid hP
              clear hP
              refine wp_world (fun W => Hid (RT W B h tr ba ke ho (mix tr ba ke ho n l (i + 1))) ∧ Hid (KeepR B wr W) ∧ Blk W wr.heap.size 63 #[.int .i64 y.a, .int .i64 2, .int .i64 1, .int .u32 0, .int .u16 0, .int .u64 (n + ba), .int .u64 0]) ⟨Lib.hid HP.out.1.drew.drew, Lib.hid HP.out.2.1.drew.drew, HP.out.2.2.drew.drew⟩ ?_
              clear HP d0 d1 d2 d3 d4 f2 z2 y0 y1 y2 y3 y4 y5 y6 f3 z3
              rintro w2 ⟨hR2, hK2, hB2⟩
              have hown2 := own_keepR hK2.out (by decide) (by decide) HOWN.out
              have hs22 := hK2.out.b.size
              obtain ⟨c7, f7, z7⟩ := hB2.all
              go_wp2_with (at_builtin; refine wpList_append_own _ rfl (.tmp 110) (.tmp 114) 49 rfl w.heap.size 53 i0 (.agg #[.int .i64 0, .int .i64 0]) 2 16 Try.underlying49 Hi.out Hz0.out Hz1.out Hz2.out rfl (by decide) u5 lo xs rfl (hown2.alloc _) ⟨w2.heap.size, 0, none⟩ 1 1 [.int .i64 y.a, .int .i64 1] rfl rfl ?c1 ?c2 ?c3 ?c4 ?c5 ?_)
              case c1 => exact two_new _ _ _ _
              case c2 => intro u hu; simp only [List.mem_cons, List.not_mem_nil, or_false] at hu; rcases hu with rfl | rfl <;> rfl
              case c3 => unfold maxLen; omega
              case c4 => omega
              case c5 => rw [World.size_alloc]; omega
              intro v' w3 hown' hgrow hnn
              have D2 := HM.out v' _ w2 w3 hK2.out hR2.out hown' hgrow
              clear hown' hgrow hnn hown2 hK2 hR2 HM
              go_wp2
              go_roundw
              case rel => exact ⟨i + 1, by omega, by go_num, D2⟩
              case measure => simp [intOf]; omega
            · have hs : stepF tr ba ke ho n y = (⟨y.a, 2, 1, 0, 0, n + ba, 0⟩, 1) := by unfold stepF; rw [if_neg ca, if_neg cb, if_neg (fun q => cd q.1), if_neg cd]
              have HM := Lib.hid (fun v' o w2 w3 hK hR hown hgr => HMO.out v' o w2 w3 (by rw [hs]; exact (show (0 : Int) < 1 by decide)) hK hR hown hgr)
              rw [hs] at HM
              have hset := HSET.out
              rw [hs] at hset
              have Hset := Lib.hid hset
              clear hs hset
              have q1 : (y.b == 3) = false := ne_b c3
              have q2 : (y.b != 2) = true := ne_t cd
              have q3 : decide (tr ≤ 0) = false := decide_eq_false (by omega)
              have Cb := Lib.hid cb
              have Cd := Lib.hid cd
              clear cb cd
              go_wp2_with fail
              go_quiet (fail)
              go_wp2_with fail
              go_region
              go_wp2_with fail
              go_region
              go_upto_region 19 with (fail)
              have hP := whole7 (W1 := (((wr.alloc (.cells #[.int .i64 y.a, .int .i64 2, .int .i64 0, .int .u32 0, .int .u16 0, .int .u64 0, .int .u64 0] 63)).drewN nq).setCell ⟨wr.heap.size, 2, none⟩ (.int .i64 1)).setCell ⟨wr.heap.size, 5, none⟩ (.int .u64 (n + ba))) (cs := #[.int .i64 y.a, .int .i64 2, .int .i64 1, .int .u32 0, .int .u16 0, .int .u64 (n + ba), .int .u64 0]) HDR.out HLn.out d4 z2 hlt ((((below_drewN' ((Below.refl wr.heap.size wr).alloc (Nat.le_refl _) _) nq)).setCell (p := ⟨wr.heap.size, 2, none⟩) (Nat.le_refl _) (.int .i64 1)).setCell (p := ⟨wr.heap.size, 5, none⟩) (Nat.le_refl _) (.int .u64 (n + ba))) ((((Blk.new wr 63 #[.int .i64 y.a, .int .i64 2, .int .i64 0, .int .u32 0, .int .u16 0, .int .u64 0, .int .u64 0]).drewN' nq).put 2 (.int .i64 1) rfl).put 5 (.int .u64 (n + ba)) rfl) n3 ⟨y.a, 2, 1, 0, 0, (n + ba), 0⟩ Hset.out
              have HP := Lib.hid hP
              clear hP
              refine wp_world (fun W => Hid (RT W B h tr ba ke ho (mix tr ba ke ho n l (i + 1))) ∧ Hid (KeepR B wr W) ∧ Blk W wr.heap.size 63 #[.int .i64 y.a, .int .i64 2, .int .i64 1, .int .u32 0, .int .u16 0, .int .u64 (n + ba), .int .u64 0]) ⟨Lib.hid HP.out.1.drew.drew, Lib.hid HP.out.2.1.drew.drew, HP.out.2.2.drew.drew⟩ ?_
              clear HP d0 d1 d2 d3 d4 f2 z2 y0 y1 y2 y3 y4 y5 y6 f3 z3
              rintro w2 ⟨hR2, hK2, hB2⟩
              have hown2 := own_keepR hK2.out (by decide) (by decide) HOWN.out
              have hs22 := hK2.out.b.size
              obtain ⟨c7, f7, z7⟩ := hB2.all
              go_wp2_with (at_builtin; refine wpList_append_own _ rfl (.tmp 110) (.tmp 114) 49 rfl w.heap.size 53 i0 (.agg #[.int .i64 0, .int .i64 0]) 2 16 Try.underlying49 Hi.out Hz0.out Hz1.out Hz2.out rfl (by decide) u5 lo xs rfl (hown2.alloc _) ⟨w2.heap.size, 0, none⟩ 1 1 [.int .i64 y.a, .int .i64 1] rfl rfl ?c1 ?c2 ?c3 ?c4 ?c5 ?_)
              case c1 => exact two_new _ _ _ _
              case c2 => intro u hu; simp only [List.mem_cons, List.not_mem_nil, or_false] at hu; rcases hu with rfl | rfl <;> rfl
              case c3 => unfold maxLen; omega
              case c4 => omega
              case c5 => rw [World.size_alloc]; omega
              intro v' w3 hown' hgrow hnn
              have D2 := HM.out v' _ w2 w3 hK2.out hR2.out hown' hgrow
              clear hown' hgrow hnn hown2 hK2 hR2 HM
              go_wp2
              go_roundw
              case rel => exact ⟨i + 1, by omega, by go_num, D2⟩
              case measure => simp [intOf]; omega
    · obtain rfl : i = len := by omega
      go_wp2
      go_ret
      exact ⟨_, rfl, D⟩
end Go.Proofs.Ytglliiijeadhcaa
