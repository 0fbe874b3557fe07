/- append of what a slice holds, be it nil, empty or not; the reference's find; no conditions but those that each theorem names. -/
import Derived.Test.YtglliiijeadhcaaKf0
namespace Go.Proofs.Ytglliiijeadhcaa
open Go.RowKit
set_option linter.unusedVariables false

/-- A slice's address A, m long, holds the cells. -/
def Src (w : World) (size : Nat) (A : Option Addr) (m : Nat) (news : List Value) : Prop :=
  news.length = m * size ∧ (0 < m → ∃ ad, A = some ad ∧ ∀ j u, news[j]? = some u → w.cell? (ad.add j) = some u)
section
variable {P : Program}
theorem run_app (w : World) (base : Nat) (t ty e : TypeId) (i : TypeInfo) (z : Value) (size bytes : Nat) (ht : P.underlying t = some (.slice e)) (hi : P.info? e = some i) (hz : i.zero = some z)
    (hsize : i.size = size) (hby : i.bytes = bytes) (hzs : z.cells.size = size) (hsz : 0 < size) (v : Value) (n : Nat) (xs : List Value) (hown : w.ownsRow base e size v n xs)
    (A : Option Addr) (m c : Nat) (news : List Value) (hs : Src w size A m news) (h1 : ∀ u ∈ news, u.oneCell' = true)
    (h63 : n + m ≤ maxLen) (hbytes : (n + m) * bytes ≤ 140737488355328) (hbase : base ≤ w.heap.size) :
    ∃ v' w', (Builtin.append_ #[t, t] ty #[v, .slice A m c]).run P w = .ok v' w' ∧ w'.ownsRow base e size v' (n + m) (xs ++ news) ∧ w.grownBy w' v.ownBlock := by
  obtain ⟨hl, hs⟩ := hs
  cases A with
  | none =>
    obtain rfl : m = 0 := by
      rcases Nat.eq_zero_or_pos m with h | h
      · exact h
      · obtain ⟨ad, h, _⟩ := hs h; cases h
    obtain rfl : news = [] := List.eq_nil_of_length_eq_zero (by omega)
    refine ⟨v, w, ?_, by simpa using hown, only_refl _ _⟩
    rcases hown.2 with ⟨rfl, rfl⟩ | ⟨g, cap, cur, rfl, _, _, hnc, _⟩
    · simp [Builtin.append_, run_underlying ht, sizeOf, typeInfo, hi, Builtin.lenOf, Builtin.firstCells]
    · simp [Builtin.append_, run_underlying ht, sizeOf, typeInfo, hi, Builtin.lenOf, Builtin.firstCells, hnc, storeCells]
  | some ad =>
    have hc : ∀ j u, news[j]? = some u → w.cell? (ad.add j) = some u := by
      rcases Nat.eq_zero_or_pos m with h | h
      · subst h
        obtain rfl : news = [] := List.eq_nil_of_length_eq_zero (by omega)
        intro j u hu
        simp at hu
      · obtain ⟨ad', he, hc⟩ := hs h
        injection he with he
        subst he
        exact hc
    obtain ⟨v', w', hr, h2, h3, _⟩ := run_append_own (P := P) w base t ty e i z size bytes ht hi hz hsize hby hzs hsz v n xs hown ad m c news hl hc h1 h63 hbytes hbase
    exact ⟨v', w', hr, h2, h3⟩
theorem wpList_app {w : World} {ops : Array Oper} {rest : List Oper} {o : Oper} {a : Act} {Q : Exit → Act → World → Prop} (hgd : o.guard = none) (s x : Operand) (t : TypeId)
    (ho : o.op = .call { callee := .builtin .append, args := #[s, x], argTypes := #[t, t] })
    (base : Nat) (e : TypeId) (i : TypeInfo) (z : Value) (size bytes : Nat) (ht : P.underlying t = some (.slice e)) (hi : P.info? e = some i) (hz : i.zero = some z)
    (hsize : i.size = size) (hby : i.bytes = bytes) (hzs : z.cells.size = size) (hsz : 0 < size) (v : Value) (n : Nat) (xs : List Value) (hs : a.eval s = v) (hown : w.ownsRow base e size v n xs)
    (A : Option Addr) (m c : Nat) (news : List Value) (hx : a.eval x = .slice A m c) (hsrc : Src w size A m news) (h1 : ∀ u ∈ news, u.oneCell' = true)
    (h63 : n + m ≤ maxLen) (hbytes : (n + m) * bytes ≤ 140737488355328) (hbase : base ≤ w.heap.size)
    (h : ∀ v' w', w'.ownsRow base e size v' (n + m) (xs ++ news) → w.grownBy w' v.ownBlock → wpList P ops Q rest (a.put o.dst v') w') : wpList P ops Q (o :: rest) a w :=
  wpList_plain hgd fun _ hK => by
    obtain ⟨v', w', hr, h2, h3⟩ := run_app (P := P) w base t o.type e i z size bytes ht hi hz hsize hby hzs hsz v n xs hown A m c news hsrc h1 h63 hbytes hbase
    unfold Oper.wp execOp
    simp only [ho, resolve, invoke, builtin, Sem.run_bind, Sem.run_pure, Result.andThen_ok, List.map_toArray, List.map_cons, List.map_nil, hs, hx, hr]
    exact hK _ _ (h v' w' h2 h3)
end
theorem add_at (r o j : Nat) : (⟨r, o, none⟩ : Addr).add j = ⟨r, o + j, none⟩ := by unfold Addr.add; split <;> simp_all
section
variable {w w' : World} {B h : Nat} {tr ba ke ho : Int} {l : List Pt}
theorem src_take {A : Option Addr} {c n : Nat} (ho : w.ownsRow B 63 7 (.slice A n c) l.length (pts l)) {m : Nat} (hm : m ≤ l.length) : Src w 7 A m (pts (l.take m)) := by
  refine ⟨by rw [pts_len, List.length_take]; omega, fun hp => ?_⟩
  obtain ⟨r, cur, rfl, hB, hb, hc⟩ := own_at ho (j := 0) (by omega)
  refine ⟨_, rfl, fun j u hu => ?_⟩
  refine ho.cells (g := r) rfl j u ?_
  rw [← pts_take] at hu
  rw [List.getElem?_take] at hu
  split at hu
  · exact hu
  · cases hu
theorem src_drop {A : Option Addr} {c n : Nat} (ho : w.ownsRow B 63 7 (.slice A n c) l.length (pts l)) {m : Nat} (hm : m ≤ l.length) (hc : l.length ≤ c) :
    Src w 7 (if c = m then A else A.map (·.add (m * 7))) (l.length - m) (pts (l.drop m)) := by
  refine ⟨by rw [pts_len, List.length_drop], fun hp => ?_⟩
  obtain ⟨r, cur, rfl, hB, hb, _⟩ := own_at ho (j := 0) (by omega)
  rw [if_neg (by omega)]
  refine ⟨_, rfl, fun j u hu => ?_⟩
  show w.cell? (((⟨r, 0, none⟩ : Addr).add (m * 7)).add j) = some u
  rw [add_at, add_at]
  have := ho.cells (g := r) rfl (m * 7 + j) u (by rw [← pts_drop, List.getElem?_drop] at hu; exact hu)
  rw [add_at] at this
  rw [show 0 + m * 7 + j = 0 + (m * 7 + j) by omega]
  exact this

def FindR (l : List Pt) (p : Int) (w : World) (e : Ending) (w' : World) : Prop := ∃ (m : Nat) (b : Bool), e = .returned (.tuple #[.int .i64 m, .bool b]) ∧ At l p m b ∧ ∃ n, w' = w.drewN n
set_option maxRecDepth 100000 in
set_option maxHeartbeats 2000000 in
theorem rfind (p : Int) (w : World) (R : RT w B h tr ba ke ho l) (hl : l.length ≤ 33) :
    Calls Try.prog 28 #[.pointer (some ⟨h, 0, none⟩), .int .i64 p] w (FindR l p w) := by
  obtain ⟨A, c, hb, hown⟩ := R.has
  have hrow := fun j hj => own_at hown (j := j) hj
  have hcl : l.length ≤ c := by
    rcases hown.2 with ⟨h1, h2⟩ | ⟨g', cap, cur, hv, _, _, h1, _⟩
    · omega
    · injection hv with _ _ hc; omega
  obtain ⟨c0, f0, z0⟩ := hb.all
  have c4 := c0 4
  simp only [List.getElem?_toArray, List.getElem?_cons_succ, List.getElem?_cons_zero] at c4
  clear c0 hb hown R
  have HR := Lib.hid hrow
  clear hrow
  obtain ⟨len, HL⟩ : ∃ len, Hid (l.length = len) := ⟨_, Lib.hid rfl⟩
  rw [HL.out] at c4 hl hcl
  go_enter Try.func28, Try.ntmps28
  go_wp2_with fail
  go_loop [6] (fun v6 => ∃ j : Nat, j ≤ len ∧ v6 = .int .i64 j ∧ Hid (∀ i (hi : i < l.length), i < j → (l[i]).a < p)) (fun v6 => len - (intOf v6).toNat)
  case atStart => exact ⟨0, by omega, rfl, Lib.hid (fun i _ hi => absurd hi (by omega))⟩
  case round =>
    obtain ⟨j, hj, rfl, hlo⟩ := hrel
    by_cases hlt : j < len
    · obtain ⟨r, cur, rfl, hB, Br, hc⟩ := HR.out j (by rw [HL.out]; exact hlt)
      obtain ⟨c1, f1, z1⟩ := Br.all
      have e0 := hc 0 (by omega)
      rw [Nat.add_zero] at e0
      clear hc
      have HE := Lib.hid (show j < l.length by rw [HL.out]; exact hlt)
      obtain ⟨a, ha⟩ : ∃ a, (l[j]'HE.out).a = a := ⟨_, rfl⟩
      rw [show (l[j]).cell 0 = .int .i64 a from by rw [← ha]; rfl] at e0
      have HA := Lib.hid ha
      clear ha
      by_cases hge : p ≤ a
      · have HLO := hlo
        by_cases heq : a = p
        · have hq : (a == p) = true := beq_iff_eq.2 heq
          have hat : At l p j true := ⟨by rw [HL.out]; exact hj, fun i hi hij => hlo.out i hi hij, fun _ => ⟨HE.out, by rw [HA.out]; exact heq⟩, (fun q => by cases q)⟩
          have Hat := Lib.hid hat
          clear heq hat
          go_wp2
          go_quiet (fail)
          go_wp2
          go_ret2
          exact ⟨j, true, rfl, Hat.out, _, rfl⟩
        · have hq : (a == p) = false := ne_b heq
          have hat : At l p j false := ⟨by rw [HL.out]; exact hj, fun i hi hij => hlo.out i hi hij, (fun q => by cases q), fun _ hq => by rw [HA.out]; omega⟩
          have Hat := Lib.hid hat
          clear heq hat
          go_wp2
          go_quiet (fail)
          go_wp2
          go_ret2
          exact ⟨j, false, rfl, Hat.out, _, rfl⟩
      · have hlo2 : Hid (∀ i (hi : i < l.length), i < j + 1 → (l[i]).a < p) := Lib.hid (fun i hi hij => by
          rcases Nat.lt_or_ge i j with h1 | h1
          · exact hlo.out i hi h1
          · obtain rfl : i = j := by omega
            rw [HA.out]; omega)
        clear hlo
        go_wp2
        go_round
        case rel => exact ⟨j + 1, by omega, by go_num, hlo2⟩
        case measure => simp [intOf]; omega
    · obtain rfl : j = len := by omega
      have hat : At l p j false := ⟨by rw [HL.out]; omega, fun i hi hij => hlo.out i hi hij, (fun q => by cases q), fun _ hq => by have := HL.out; omega⟩
      have Hat := Lib.hid hat
      clear hat hlo
      go_wp2
      go_ret2
      exact ⟨j, false, rfl, Hat.out, 0, rfl⟩
end
end Go.Proofs.Ytglliiijeadhcaa
