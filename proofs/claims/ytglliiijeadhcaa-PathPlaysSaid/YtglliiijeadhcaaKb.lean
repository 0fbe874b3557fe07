/- The contract of All of the package path, and what Due answers of a table with one path; no conditions but those that each theorem names. -/
import Derived.Test.YtglliiijeadhcaaKa
namespace Go.Proofs.Ytglliiijeadhcaa
open Go.RowKit
variable {g : Nat} {tr ba ke ho : Int} {F : Nat → Pt}

theorem run_loadVar_at (P : Program) (w : World) (g off ty : Nat) (cs : Array Value) (d : TypeDesc) (hc : ∀ (j : Nat) (v : Value), cs[j]? = some v → w.cell? ⟨g, off + j, none⟩ = some v)
    (hu : P.underlying ty = some d) (hd : (match d with | .struct _ | .array _ _ => true | _ => false) = true) (hi : (P.info? ty).map (·.size) = some cs.size) :
    (loadVar ty ⟨g, off, none⟩).run P w = .ok (.agg cs) w := by
  have hl : (loadCells ⟨g, off, none⟩ cs.toList.length).run P w = .ok cs.toList.toArray w :=
    run_loadCells_list (P := P) w ⟨g, off, none⟩ cs.toList (fun j v hv => by
      have hadd : (⟨g, off, none⟩ : Addr).add j = ⟨g, off + j, none⟩ := by unfold Addr.add; split <;> simp_all
      rw [hadd]
      exact hc j v (by simpa using hv))
  cases hq : P.info? ty with
  | none => simp [hq] at hi
  | some i =>
    have hs : i.size = cs.size := by simpa [hq] using hi
    have hagg : (isAgg ty).run P w = .ok true w := by
      unfold isAgg
      rw [Sem.run_bind, run_underlying hu w]
      cases d <;> simp_all
    simp only [Array.length_toList, Array.toArray_toList] at hl
    simp [loadVar, Sem.run_bind, hagg, sizeOf, typeInfo, hq, hs, hl]
theorem wpList_load_at {P : Program} {ops : Array Oper} {rest : List Oper} {o : Oper} {a : Act} {w : World} {Q : Exit → Act → World → Prop} (hgd : o.guard = none) (ty : TypeId) (x : Operand) (ho : o.op = .load ty x)
    (g off : Nat) (hx : a.eval x = .pointer (some ⟨g, off, none⟩)) (cs : Array Value) (d : TypeDesc) (hc : ∀ (j : Nat) (v : Value), cs[j]? = some v → w.cell? ⟨g, off + j, none⟩ = some v)
    (hu : P.underlying ty = some d) (hd : (match d with | .struct _ | .array _ _ => true | _ => false) = true) (hi : (P.info? ty).map (·.size) = some cs.size)
    (h : wpList P ops Q rest (a.put o.dst (.agg cs)) w) : wpList P ops Q (o :: rest) a w :=
  wpList_plain hgd fun _ hK => by
    unfold Oper.wp execOp
    simp only [ho, hx, Instr.loadAt, Instr.sureAddr, Sem.run_bind, Sem.run_pure, Result.andThen_ok, run_loadVar_at P w g off ty cs d hc hu hd hi]
    exact hK _ _ h
/-- The cells of all paths. -/
structure AllC (F : Nat → Pt) (cs : Array Value) : Prop where
  size : cs.size = 231
  at_ : ∀ k j, k < 33 → j < 7 → cs[k * 7 + j]? = some ((F k).cell j)
theorem AllC.part {cs : Array Value} (h : AllC F cs) {k : Nat} (hk : k < 33) : cs.extract (k * 7) (k * 7 + 7) = #[(F k).cell 0, (F k).cell 1, (F k).cell 2, (F k).cell 3, (F k).cell 4, (F k).cell 5, (F k).cell 6] := by
  have hs := h.size
  apply Array.ext_getElem?
  intro j
  rw [Array.getElem?_extract]
  by_cases hj : j < 7
  · rw [if_pos (by omega), h.at_ k j hk hj]
    match j, hj with
    | 0, _ | 1, _ | 2, _ | 3, _ | 4, _ | 5, _ | 6, _ => rfl
  · rw [if_neg (by omega)]
    match j, hj with
    | 0, h | 1, h | 2, h | 3, h | 4, h | 5, h | 6, h => exact absurd (by omega) h
    | n + 7, _ => rfl
theorem Tab.all {w : World} (h : Tab w g tr ba ke ho F) : ∃ cs, AllC F cs ∧ ∀ (j : Nat) (v : Value), cs[j]? = some v → w.cell? ⟨g, 4 + j, none⟩ = some v := by
  obtain ⟨cs, hB, hs, h0, h1, h2, h3, hr⟩ := h.has
  refine ⟨cs.extract 4 235, ⟨by simp [hs], fun k j hk hj => ?_⟩, fun j v hv => ?_⟩
  · rw [Array.getElem?_extract, if_pos (by omega), show 4 + (k * 7 + j) = 4 + k * 7 + j by omega]
    exact hr k j hk hj
  · rw [Array.getElem?_extract] at hv
    rw [hB.cell]
    split at hv
    · exact hv
    · cases hv

theorem info61 : (Try.prog.info? 61).map (fun i => (i.zero, i.size, i.bytes)) = some (some (.agg #[.int .i64 0, .int .i64 0, .int .i64 0, .int .u32 0, .int .u16 0, .int .u64 0, .int .u64 0]), 7, 48) := by kernel_rfl
theorem run_index70 {cs : Array Value} (h : AllC F cs) {k : Nat} (hk : k < 33) (w : World) : (Instr.index 70 (.agg cs) (.int .i64 (k : Int))).run Try.prog w = .ok (F k).val w := by
  obtain ⟨i0, hi, hz0, hz1, hz2⟩ := info_parts info61
  have hs : (sizeOf 61).run Try.prog w = .ok 7 w := by simp [sizeOf, typeInfo, hi, hz1]
  have hu : (underlying 70).run Try.prog w = .ok (.array 33 61) w := run_underlying Try.underlying70 w
  have hx := h.part hk
  simp [Instr.index, asIntOf, hu, hs, part, hx, Pt.cell]
  intro h
  omega
/-- The paths among the first k that are some. -/
def allL (F : Nat → Pt) : Nat → List Pt
  | 0 => []
  | k + 1 => allL F k ++ (if (F k).b ≠ 0 then [F k] else [])
def pts : List Pt → List Value
  | [] => []
  | x :: l => .int .i64 x.a :: .int .i64 x.b :: .int .i64 x.c :: .int .u32 x.d :: .int .u16 x.e :: .int .u64 x.f :: .int .u64 x.k :: pts l
theorem pts_append (l m : List Pt) : pts (l ++ m) = pts l ++ pts m := by
  induction l with
  | nil => rfl
  | cons x l ih => simp [pts, ih]
theorem allL_len (F : Nat → Pt) : ∀ k, (allL F k).length ≤ k
  | 0 => Nat.le_refl _
  | k + 1 => by
    have := allL_len F k
    unfold allL
    rw [List.length_append]
    split <;> simp <;> omega
theorem seven_new (w : World) (t : TypeId) (a b c d e f q : Value) : ∀ (j : Nat) (u : Value), [a, b, c, d, e, f, q][j]? = some u → (w.alloc (.cells #[a, b, c, d, e, f, q] t)).cell? ((⟨w.heap.size, 0, none⟩ : Addr).add j) = some u := by
  intro j u h
  have hadd : (⟨w.heap.size, 0, none⟩ : Addr).add j = ⟨w.heap.size, j, none⟩ := by unfold Addr.add; split <;> simp_all
  rw [hadd, (Blk.new w t #[a, b, c, d, e, f, q]).cell j]
  simpa using h
def AllR (F : Nat → Pt) (w : World) (k : Nat) (v : Value) (wr : World) : Prop :=
  wr.ownsRow w.heap.size 61 7 v (allL F k).length (pts (allL F k)) ∧ Below w.heap.size w wr
theorem AllR.skip {w wr : World} {k : Nat} {v : Value} (h : AllR F w k v wr) (hb : (F k).b = 0) (o : Obj) : AllR F w (k + 1) v (wr.alloc o) := by
  obtain ⟨h1, h2⟩ := h
  refine ⟨?_, h2.alloc h2.size o⟩
  have : allL F (k + 1) = allL F k := by
    show allL F k ++ _ = _
    rw [if_neg (by omega), List.append_nil]
  rw [this]
  exact h1.alloc o
theorem AllR.more {w wr w3 : World} {k : Nat} {v v' : Value} {o o2 : Obj} (h : AllR F w k v wr) (hb : (F k).b ≠ 0)
    (hown : w3.ownsRow w.heap.size 61 7 v' ((allL F k).length + 1) (pts (allL F k) ++ [.int .i64 (F k).a, .int .i64 (F k).b, .int .i64 (F k).c, .int .u32 (F k).d, .int .u16 (F k).e, .int .u64 (F k).f, .int .u64 (F k).k]))
    (hgr : ((wr.alloc o).alloc o2).grownBy w3 v.ownBlock) : AllR F w (k + 1) v' w3 := by
  obtain ⟨h1, h2⟩ := h
  have h3 := (h1.alloc o).alloc o2
  have h4 := (h2.alloc h2.size o).alloc (by have := h2.size; simp; omega) o2
  have e : allL F (k + 1) = allL F k ++ [F k] := by
    show allL F k ++ _ = _
    rw [if_pos hb]
  refine ⟨?_, h4.grown hgr h4.size (fun q hq => ?_)⟩
  · rw [e, pts_append, List.length_append]
    exact hown
  · rcases Nat.lt_or_ge q w.heap.size with hlt | hge
    · exact absurd hq (owns_not h3 hlt)
    · exact hge
set_option maxRecDepth 100000 in
set_option maxHeartbeats 4000000 in
theorem all_any (w : World) (T : Tab w g tr ba ke ho F) :
    Calls Try.prog 23 #[.pointer (some ⟨g, 0, none⟩)] w fun e w' => ∃ v, e = .returned v ∧ AllR F w 33 v w' := by
  obtain ⟨cs, hC, hcs⟩ := T.all
  have hz := T.lt
  obtain ⟨i0, hi, hz0, hz1, hz2⟩ := info_parts info61
  have Hi := Lib.hid hi
  have Hz0 := Lib.hid hz0
  have Hz1 := Lib.hid hz1
  have Hz2 := Lib.hid hz2
  have Hcs := Lib.hid hcs
  have hsz := hC.size
  have Hsz : Hid ((Try.prog.info? 70).map (·.size) = some cs.size) := by rw [hsz]; exact Lib.hid (by kernel_rfl)
  clear hi hz0 hz1 hz2 hcs hsz
  go_enter Try.func23, Try.ntmps23
  go_wp2_with (refine wpList_load_at rfl 70 _ rfl g 4 rfl cs _ Hcs.out Try.underlying70 rfl Hsz.out ?_)
  go_loopw [3, 10] (fun v3 v10 wr => ∃ k : Nat, k ≤ 33 ∧ v10 = .int .i64 k ∧ AllR F w k v3 wr) (fun _ v10 _ => 33 - (intOf v10).toNat)
  case atStart => exact ⟨0, by omega, rfl, ⟨⟨rfl, .inl ⟨rfl, rfl⟩⟩, Below.refl _ _⟩⟩
  case round =>
    obtain ⟨k, hk, rfl, D⟩ := hrel
    by_cases hlt : k < 33
    · have hidx := fun w => run_index70 hC hlt w
      by_cases hb : (F k).b = 0
      · have hb' := eq_n hb
        have Hb := Lib.hid hb
        clear hb
        go_wp2
        go_roundw
        case rel => exact ⟨k + 1, by omega, by go_num, D.skip Hb.out _⟩
        case measure => simp [intOf]; omega
      · have hb' := ne_t hb
        have hm := fun o o2 v' w3 hown hgr => D.more (v' := v') (w3 := w3) (o := o) (o2 := o2) hb hown hgr
        have hown := D.1
        have hlen := allL_len F k
        have hz2 : w.heap.size ≤ wr.heap.size := D.2.size
        clear D T
        generalize hL : (allL F k).length = len at *
        clear hL
        have HL := Lib.hid hm
        clear hm
        go_wp2_with (at_builtin; refine wpList_append_own _ rfl _ _ 54 rfl w.heap.size 61 i0 _ 7 48 Try.underlying54 Hi.out Hz0.out Hz1.out Hz2.out rfl (by decide) _ _ _ rfl ((hown.alloc _).alloc _) ⟨wr.heap.size + 1, 0, none⟩ 1 1 [.int .i64 (F k).a, .int .i64 (F k).b, .int .i64 (F k).c, .int .u32 (F k).d, .int .u16 (F k).e, .int .u64 (F k).f, .int .u64 (F k).k] rfl rfl ?c1 ?c2 ?c3 ?c4 ?c5 ?_)
        case c1 =>
          have e : (⟨wr.heap.size + 1, 0, none⟩ : Addr) = ⟨(wr.alloc (.cells #[.int .i64 (F k).a, .int .i64 (F k).b, .int .i64 (F k).c, .int .u32 (F k).d, .int .u16 (F k).e, .int .u64 (F k).f, .int .u64 (F k).k] 61)).heap.size, 0, none⟩ := by rw [World.size_alloc]
          rw [e]
          exact seven_new _ _ _ _ _ _ _ _ _
        case c2 => intro u hu; simp only [List.mem_cons, List.not_mem_nil, or_false] at hu; rcases hu with rfl | rfl | rfl | rfl | rfl | rfl | rfl <;> rfl
        case c3 => unfold maxLen; omega
        case c4 => omega
        case c5 => rw [World.size_alloc, World.size_alloc]; omega
        intro v' w3 hown' hgrow _
        have D2 := HL.out _ _ v' w3 hown' hgrow
        clear hown' hgrow hown HL
        go_wp2
        go_roundw
        case rel => exact ⟨k + 1, by omega, by go_num, D2⟩
        case measure => simp [intOf]; omega
    · obtain rfl : k = 33 := by omega
      go_wp2
      go_ret
      exact ⟨_, rfl, D⟩

end Go.Proofs.Ytglliiijeadhcaa
