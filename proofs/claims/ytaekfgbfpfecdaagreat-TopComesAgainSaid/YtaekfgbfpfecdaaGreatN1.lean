/- The machine: kinds, tables, memory, operations; no conditions but those that each theorem names. -/
import Derived.WalkKit
import Derived.KernelRfl
import Derived.Deep.MidRow

/- Numbers as rows of lanes of 64 bits: read, written, laid side by side; no program in sight; no conditions but those that each theorem names. -/
namespace Go.Proofs.YtaekfgbfpfecdaaGreat.VM
open Go
set_option linter.unusedVariables false

def lane (x j : Nat) : Nat := x / 2 ^ (64 * j) % 2 ^ 64
def mask (n : Nat) : Nat := Nat.sub (Nat.shiftLeft 1 (Nat.shiftLeft n 6)) 1
def rd (m p n : Nat) : Nat := Nat.land (Nat.shiftRight m p) (mask n)
def p61 : Nat := 2305843009213693951
def wrv (m p n x : Nat) : Nat :=
  Nat.xor m (Nat.xor (Nat.shiftLeft (Nat.xor (rd m p n) x) p) (Nat.mod (Nat.add (Nat.xor (rd m p n) x) p) 2305843009213693951))
def cat (x o y : Nat) : Nat := Nat.xor x (Nat.shiftLeft y (Nat.shiftLeft o 6))

theorem lane_lt (x j : Nat) : lane x j < 2 ^ 64 := Nat.mod_lt _ (Nat.two_pow_pos 64)
theorem testBit_lane (x j i : Nat) : (lane x j).testBit i = (decide (i < 64) && x.testBit (64 * j + i)) := by
  simp only [lane, Nat.testBit_mod_two_pow, Nat.testBit_div_two_pow, Nat.add_comm]
theorem mask_eq (n : Nat) : mask n = 2 ^ (64 * n) - 1 := by
  have h1 : Nat.shiftLeft n 6 = n <<< 6 := rfl
  have h2 : ∀ k, Nat.shiftLeft 1 k = 1 <<< k := fun _ => rfl
  have h3 : ∀ a b, Nat.sub a b = a - b := fun _ _ => rfl
  rw [mask, h1, h2, h3, Nat.shiftLeft_eq, Nat.shiftLeft_eq, Nat.one_mul, Nat.mul_comm]
theorem rd_eq (m p n : Nat) : rd m p n = m / 2 ^ p % 2 ^ (64 * n) := by
  have h1 : ∀ a b, Nat.land a b = a &&& b := fun _ _ => rfl
  have h2 : Nat.shiftRight m p = m >>> p := rfl
  rw [rd, mask_eq, h1, h2, Nat.and_two_pow_sub_one_eq_mod, Nat.shiftRight_eq_div_pow]
theorem rd_lt (m p n : Nat) : rd m p n < 2 ^ (64 * n) := by rw [rd_eq]; exact Nat.mod_lt _ (Nat.two_pow_pos _)
theorem testBit_rd (m p n i : Nat) : (rd m p n).testBit i = (decide (i < 64 * n) && m.testBit (p + i)) := by
  rw [rd_eq, Nat.testBit_mod_two_pow, Nat.testBit_div_two_pow, Nat.add_comm]
theorem testBit_xor' (a b i : Nat) : (Nat.xor a b).testBit i = ((a.testBit i) ^^ (b.testBit i)) := Nat.testBit_xor a b i
theorem testBit_shl' (a p i : Nat) : (Nat.shiftLeft a p).testBit i = (decide (i ≥ p) && a.testBit (i - p)) := Nat.testBit_shiftLeft a

theorem lane_rd (m a n j : Nat) : lane (rd m (64 * a) n) j = if j < n then lane m (a + j) else 0 := by
  apply Nat.eq_of_testBit_eq
  intro i
  rw [testBit_lane, testBit_rd]
  by_cases hi : i < 64
  · by_cases hj : j < n
    · have h1 : 64 * j + i < 64 * n := by omega
      have h2 : 64 * a + (64 * j + i) = 64 * (a + j) + i := by omega
      simp [hi, hj, h1, testBit_lane, h2]
    · have h1 : ¬ (64 * j + i < 64 * n) := by omega
      simp [hj, h1]
  · split <;> simp [hi, testBit_lane]

theorem testBit_lt {x k i : Nat} (h : x < 2 ^ k) (hi : k ≤ i) : x.testBit i = false :=
  Nat.testBit_lt_two_pow (Nat.lt_of_lt_of_le h (Nat.pow_le_pow_right (by omega) hi))

theorem lane_big {x n j : Nat} (h : x < 2 ^ (64 * n)) (hj : n ≤ j) : lane x j = 0 := by
  apply Nat.eq_of_testBit_eq
  intro i
  rw [testBit_lane]
  simp [testBit_lt h (i := 64 * j + i) (by omega)]

theorem lane_zero (j : Nat) : lane 0 j = 0 := by simp [lane]
theorem lane_one {x : Nat} (h : x < 2 ^ 64) : lane x 0 = x := by simp [lane, Nat.mod_eq_of_lt h]

theorem lane_wrv {m a n x : Nat} (ha : 1 ≤ a) (hx : x < 2 ^ (64 * n)) {b : Nat} (hb : 1 ≤ b) :
    lane (wrv m (64 * a) n x) b = if a ≤ b ∧ b < a + n then lane x (b - a) else lane m b := by
  have hmix : ∀ z : Nat, Nat.mod z 2305843009213693951 < 2 ^ 61 := by
    intro z
    have : Nat.mod z 2305843009213693951 < 2305843009213693951 := Nat.mod_lt _ (by omega)
    omega
  apply Nat.eq_of_testBit_eq
  intro i
  rw [testBit_lane]
  by_cases hi : i < 64
  · rw [wrv, testBit_xor', testBit_xor', testBit_shl', testBit_xor', testBit_rd,
      testBit_lt (hmix _) (i := 64 * b + i) (by omega)]
    by_cases h1 : a ≤ b
    · have h2 : 64 * b + i - 64 * a = 64 * (b - a) + i := by omega
      have h3 : 64 * a + (64 * (b - a) + i) = 64 * b + i := by omega
      have h4 : 64 * b + i ≥ 64 * a := by omega
      rw [h2, h3]
      by_cases h5 : b < a + n
      · have h6 : 64 * (b - a) + i < 64 * n := by omega
        have h7 : 64 * a ≤ 64 * b + i := h4
        simp [h1, h5, hi, h6, h7, testBit_lane]
      · have h6 : ¬ 64 * (b - a) + i < 64 * n := by omega
        simp [h5, hi, h6, testBit_lane, testBit_lt hx (i := 64 * (b - a) + i) (by omega)]
    · have h4 : ¬ 64 * a ≤ 64 * b + i := by omega
      simp [h1, h4, hi, testBit_lane]
  · split <;> simp [hi, testBit_lane]

theorem wrv_lt {m a n x t : Nat} (hm : m < 2 ^ (64 * t)) (ht : a + n ≤ t) (h1 : 1 ≤ a) (hn : 1 ≤ n) (hx : x < 2 ^ (64 * n)) : wrv m (64 * a) n x < 2 ^ (64 * t) := by
  have h61 : ∀ z : Nat, Nat.mod z 2305843009213693951 < 2 ^ (64 * t) := by
    intro z
    have h : Nat.mod z 2305843009213693951 < 2305843009213693951 := Nat.mod_lt _ (by omega)
    have h2 : (2 : Nat) ^ 64 ≤ 2 ^ (64 * t) := Nat.pow_le_pow_right (by omega) (by omega)
    have h3 : (2305843009213693951 : Nat) < 2 ^ 64 := by decide
    omega
  have hd : Nat.xor (rd m (64 * a) n) x < 2 ^ (64 * n) := Nat.xor_lt_two_pow (rd_lt _ _ _) hx
  have hs : Nat.shiftLeft (Nat.xor (rd m (64 * a) n) x) (64 * a) < 2 ^ (64 * t) := by
    have : Nat.shiftLeft (Nat.xor (rd m (64 * a) n) x) (64 * a) = (Nat.xor (rd m (64 * a) n) x) * 2 ^ (64 * a) := Nat.shiftLeft_eq _ _
    rw [this]
    calc _ < 2 ^ (64 * n) * 2 ^ (64 * a) := Nat.mul_lt_mul_of_pos_right hd (Nat.two_pow_pos _)
      _ = 2 ^ (64 * n + 64 * a) := (Nat.pow_add _ _ _).symm
      _ ≤ _ := Nat.pow_le_pow_right (by omega) (by omega)
  exact Nat.xor_lt_two_pow hm (Nat.xor_lt_two_pow hs (h61 _))

theorem lane_cat {x o y : Nat} (hx : x < 2 ^ (64 * o)) (j : Nat) : lane (cat x o y) j = if j < o then lane x j else lane y (j - o) := by
  have hs : Nat.shiftLeft o 6 = 64 * o := by
    have : Nat.shiftLeft o 6 = o <<< 6 := rfl
    rw [this, Nat.shiftLeft_eq]; omega
  apply Nat.eq_of_testBit_eq
  intro i
  rw [testBit_lane, cat, hs, testBit_xor', testBit_shl']
  by_cases hi : i < 64
  · by_cases h : j < o
    · have : ¬ 64 * o ≤ 64 * j + i := by omega
      simp [h, hi, this, testBit_lane]
    · have h1 : 64 * o ≤ 64 * j + i := by omega
      have h2 : 64 * j + i - 64 * o = 64 * (j - o) + i := by omega
      simp [h, hi, h1, h2, testBit_lane, testBit_lt hx h1]
  · split <;> simp [hi, testBit_lane]

theorem cat_lt {x o y n : Nat} (hx : x < 2 ^ (64 * o)) (hy : y < 2 ^ (64 * n)) : cat x o y < 2 ^ (64 * (o + n)) := by
  have hs : Nat.shiftLeft o 6 = 64 * o := by
    have : Nat.shiftLeft o 6 = o <<< 6 := rfl
    rw [this, Nat.shiftLeft_eq]; omega
  rw [cat, hs]
  have h2 : Nat.shiftLeft y (64 * o) = y * 2 ^ (64 * o) := Nat.shiftLeft_eq _ _
  refine Nat.xor_lt_two_pow (Nat.lt_of_lt_of_le hx (Nat.pow_le_pow_right (by omega) (by omega))) ?_
  rw [h2]
  calc _ < 2 ^ (64 * n) * 2 ^ (64 * o) := Nat.mul_lt_mul_of_pos_right hy (Nat.two_pow_pos _)
    _ = 2 ^ (64 * (o + n)) := by rw [← Nat.pow_add]; congr 1; omega
theorem lane_lay {x o y n : Nat} (hz : ∀ j, o ≤ j → j < o + n → lane x j = 0) (hy : y < 2 ^ (64 * n)) (j : Nat) : lane (cat x o y) j = if o ≤ j ∧ j < o + n then lane y (j - o) else lane x j := by
  have hs : Nat.shiftLeft o 6 = 64 * o := by
    have : Nat.shiftLeft o 6 = o <<< 6 := rfl
    rw [this, Nat.shiftLeft_eq]; omega
  apply Nat.eq_of_testBit_eq
  intro i
  rw [testBit_lane, cat, hs, testBit_xor', testBit_shl']
  by_cases hi : i < 64
  · by_cases h1 : o ≤ j
    · have h2 : 64 * j + i - 64 * o = 64 * (j - o) + i := by omega
      have h3 : 64 * o ≤ 64 * j + i := by omega
      by_cases h4 : j < o + n
      · have h5 : x.testBit (64 * j + i) = false := by
          have := testBit_lane x j i
          rw [hz j h1 h4] at this
          simpa [hi] using this.symm
        simp [h1, h4, hi, h3, h2, h5, testBit_lane]
      · simp [h4, hi, h2, testBit_lane, testBit_lt hy (i := 64 * (j - o) + i) (by omega)]
    · have h3 : ¬ 64 * o ≤ 64 * j + i := by omega
      simp [h1, h3, hi, testBit_lane]
  · split <;> simp [hi, testBit_lane]
theorem cat_lt' {x o y n L : Nat} (hx : x < 2 ^ (64 * L)) (hy : y < 2 ^ (64 * n)) (h : o + n ≤ L) : cat x o y < 2 ^ (64 * L) := by
  have hs : Nat.shiftLeft o 6 = 64 * o := by
    have : Nat.shiftLeft o 6 = o <<< 6 := rfl
    rw [this, Nat.shiftLeft_eq]; omega
  rw [cat, hs]
  have h2 : Nat.shiftLeft y (64 * o) = y * 2 ^ (64 * o) := Nat.shiftLeft_eq _ _
  refine Nat.xor_lt_two_pow hx ?_
  rw [h2]
  calc _ < 2 ^ (64 * n) * 2 ^ (64 * o) := Nat.mul_lt_mul_of_pos_right hy (Nat.two_pow_pos _)
    _ = 2 ^ (64 * (o + n)) := by rw [← Nat.pow_add]; congr 1; omega
    _ ≤ _ := Nat.pow_le_pow_right (by omega) (by omega)
theorem lanes_zero {x : Nat} (h : ∀ j, lane x j = 0) : x = 0 := by
  apply Nat.eq_of_testBit_eq
  intro i
  have := testBit_lane x (i / 64) (i % 64)
  rw [h, Nat.zero_testBit] at this
  rw [Nat.zero_testBit]
  have h1 : i % 64 < 64 := Nat.mod_lt _ (by omega)
  have h2 : 64 * (i / 64) + i % 64 = i := by omega
  rw [h2] at this
  simpa [h1] using this.symm
end Go.Proofs.YtaekfgbfpfecdaaGreat.VM

/- The machine's tables and words: kinds, layouts, entries; no conditions. -/
namespace Go.Proofs.YtaekfgbfpfecdaaGreat.VM
open Go
/-- What a lane holds. -/
inductive K where
  | int (k : IntKind)
  | opq
  | bool
  | str
  | ptr (t : Nat)
  | sli (t : Nat)
  | fn
  | cst (c : Nat)
def kidx : IntKind → Nat
  | .i8 => 0 | .i16 => 1 | .i32 => 2 | .i64 => 3 | .u8 => 4 | .u16 => 5 | .u32 => 6 | .u64 => 7
def K.code : K → Nat
  | .int k => 8 * kidx k | .opq => 1 | .bool => 2 | .str => 3 | .fn => 4 | .ptr t => 8 * t + 5 | .sli t => 8 * t + 6 | .cst c => 8 * c + 7
def K.beq (x y : K) : Bool := Nat.beq x.code y.code
def beqKs : List K → List K → Bool
  | [], [] => true
  | a :: l, b :: l' => K.beq a b && beqKs l l'
  | _, _ => false
def decI (k : IntKind) (x : Nat) : Int :=
  match k with
  | .i64 => if x < 9223372036854775808 then (x : Int) else (x : Int) - 18446744073709551616
  | _ => (x : Int)
def limK : IntKind → Nat
  | .i8 => 128 | .i16 => 32768 | .i32 => 2147483648 | .i64 => 18446744073709551616 | .u8 => 256 | .u16 => 65536 | .u32 => 4294967296 | .u64 => 18446744073709551616
/-- The parts of a slice's number. -/
def slp (x : Nat) : Nat := Nat.land x 268435455
def sln (x : Nat) : Nat := Nat.land (Nat.shiftRight x 28) 131071
def scp (x : Nat) : Nat := Nat.land (Nat.shiftRight x 45) 131071
def sex (x : Nat) : Nat := Nat.shiftRight x 62
def slmk (p len cap ex : Nat) : Nat := Nat.add p (Nat.shiftLeft (Nat.add len (Nat.shiftLeft (Nat.add cap (Nat.shiftLeft ex 17)) 17)) 28)
def fcap (x i : Nat) : Nat := Nat.shiftLeft (Nat.land (Nat.shiftRight x (Nat.add 10 (Nat.mul 22 i))) 4194303) 6
/-- The machine's state: memory, its top, strings, dead lanes. -/
structure Core where
  m : Nat
  t : Nat
  s : Nat
  d : Nat
/-- The bytes of a string's handle. -/
def bytesOf (s x : Nat) : List UInt8 := (List.range (x % 65536)).map fun i => UInt8.ofNat (s / 2 ^ (x / 65536 + 8 * i) % 256)
/-- The shape of a register. -/
inductive Sh where
  | one (k : K)
  | agg (l : List K)
  | ptr (l : List K) (mo nn : Bool)
  | sli (l : List K)
/-- What is known of a slot. -/
inductive Ent where
  | n (sh : Sh) (fl : Bool) (x : Nat)
  | b (x : Bool)
  | c (i : Nat)
  | z (i : Nat)
  | tup (l : List Ent)
  | lp (i : Nat) (l : List K) (o : Nat)
  | ls (i n : Nat)
  | it (i : Nat)
  | g (j : Nat) (want gb : Bool) (e : Ent)
def lookN {α : Type} (d : α) : List (Nat × α) → Nat → α
  | [], _ => d
  | (a, x) :: l, n => if Nat.beq a n then x else lookN d l n
/-- A type, as far as the machine asks. -/
inductive Ty where
  | int (k : IntKind)
  | bool
  | str
  | ptr (e : Nat)
  | sli (e : Nat)
  | arr (n e : Nat)
  | st (fs : List (Nat × Nat))
  | flo
  | cpx
  | fn
  | oth
def Ty.isRow : Ty → Bool
  | .arr _ _ => true
  | .st _ => true
  | _ => false
structure TyR where
  desc : Ty
  size : Nat
def nthN : Nat → List Nat → Option Nat
  | _, [] => none
  | 0, x :: _ => some x
  | n + 1, _ :: l => nthN n l
def appK : List K → List K → List K
  | [], m => m
  | a :: l, m => a :: appK l m
def repK : Nat → List K → List K
  | 0, _ => []
  | n + 1, l => appK l (repK n l)
--TABLES
def tyTab : List (Nat × TyR) := [(2, ⟨.int .i64, 1⟩), (3, ⟨.int .i64, 1⟩), (4, ⟨.bool, 1⟩), (5, ⟨.int .u8, 1⟩), (9, ⟨.str, 1⟩), (21, ⟨.int .i32, 1⟩), (22, ⟨.int .u64, 1⟩), (24, ⟨.cpx, 1⟩), (26, ⟨.st [(0, 1), (1, 1)], 2⟩), (28, ⟨.st [(0, 1), (1, 2), (3, 1)], 4⟩), (29, ⟨.sli 28, 1⟩), (31, ⟨.st [(0, 1), (1, 1), (2, 1), (3, 1), (4, 1), (5, 1), (6, 1), (7, 1)], 8⟩), (32, ⟨.ptr 65, 1⟩), (33, ⟨.int .i64, 1⟩), (36, ⟨.ptr 85, 1⟩), (38, ⟨.ptr 157, 1⟩), (41, ⟨.int .u32, 1⟩), (42, ⟨.int .u16, 1⟩), (44, ⟨.st [(0, 1), (1, 1)], 2⟩), (46, ⟨.st [(0, 1), (1, 1), (2, 1), (3, 1), (4, 2), (6, 2), (8, 1)], 9⟩), (48, ⟨.ptr 104, 1⟩), (50, ⟨.ptr 108, 1⟩), (53, ⟨.st [(0, 1), (1, 1), (2, 1), (3, 2)], 5⟩), (59, ⟨.sli 53, 1⟩), (63, ⟨.sli 69, 1⟩), (65, ⟨.st [(0, 8), (8, 1), (9, 1), (10, 1), (11, 1)], 12⟩), (66, ⟨.sli 80, 1⟩), (67, ⟨.sli 71, 1⟩), (69, ⟨.st [(0, 1), (1, 1), (2, 1), (3, 1)], 4⟩), (71, ⟨.st [(0, 2), (2, 1), (3, 1), (4, 1)], 5⟩), (74, ⟨.sli 114, 1⟩), (76, ⟨.st [(0, 1), (1, 2), (3, 1), (4, 1), (5, 1), (6, 1), (7, 1), (8, 1), (9, 1)], 10⟩), (80, ⟨.st [(0, 2), (2, 1)], 3⟩), (83, ⟨.sli 135, 1⟩), (85, ⟨.st [(0, 1), (1, 1), (2, 1)], 3⟩), (86, ⟨.fn, 1⟩), (87, ⟨.sli 86, 1⟩), (90, ⟨.ptr 69, 1⟩), (92, ⟨.ptr 177, 1⟩), (93, ⟨.ptr 169, 1⟩), (95, ⟨.st [(0, 1), (1, 1), (2, 1), (3, 1), (4, 1), (5, 1), (6, 1)], 7⟩), (96, ⟨.ptr 174, 1⟩), (97, ⟨.ptr 183, 1⟩), (98, ⟨.ptr 188, 1⟩), (99, ⟨.ptr 193, 1⟩), (100, ⟨.ptr 198, 1⟩), (101, ⟨.sli 393, 1⟩), (102, ⟨.sli 210, 1⟩), (104, ⟨.st [(0, 10), (10, 5), (15, 1), (16, 1), (17, 1), (18, 7), (25, 1), (26, 1), (27, 1), (28, 1), (29, 1), (30, 1), (31, 1), (32, 1), (33, 1), (34, 1), (35, 1), (36, 1)], 37⟩), (105, ⟨.arr 33 53, 165⟩), (106, ⟨.sli 203, 1⟩), (108, ⟨.st [(0, 165), (165, 1), (166, 1)], 167⟩), (114, ⟨.st [(0, 1), (1, 2), (3, 1)], 4⟩), (134, ⟨.fn, 1⟩), (135, ⟨.ptr 207, 1⟩), (143, ⟨.st [(0, 1), (1, 2), (3, 1)], 4⟩), (146, ⟨.fn, 1⟩), (151, ⟨.int .u64, 1⟩), (153, ⟨.fn, 1⟩), (155, ⟨.sli 159, 1⟩), (157, ⟨.st [(0, 1), (1, 1)], 2⟩), (159, ⟨.st [(0, 2), (2, 2), (4, 1), (5, 1)], 6⟩), (161, ⟨.flo, 1⟩), (162, ⟨.sli 3, 1⟩), (166, ⟨.st [(0, 1)], 1⟩), (169, ⟨.st [(0, 1), (1, 1)], 2⟩), (171, ⟨.st [(0, 1), (1, 1), (2, 1), (3, 1), (4, 1)], 5⟩), (172, ⟨.arr 33 171, 165⟩), (174, ⟨.st [(0, 165)], 165⟩), (175, ⟨.sli 368, 1⟩), (177, ⟨.st [(0, 1), (1, 1)], 2⟩), (179, ⟨.st [(0, 1), (1, 2), (3, 1)], 4⟩), (180, ⟨.arr 33 179, 132⟩), (181, ⟨.sli 4, 1⟩), (183, ⟨.st [(0, 1), (1, 1), (2, 132), (134, 1), (135, 1), (136, 1), (137, 1)], 138⟩), (185, ⟨.st [(0, 1), (1, 2), (3, 1)], 4⟩), (186, ⟨.arr 33 185, 132⟩), (188, ⟨.st [(0, 1), (1, 1), (2, 132)], 134⟩), (190, ⟨.st [(0, 1), (1, 1), (2, 1)], 3⟩), (191, ⟨.arr 33 190, 99⟩), (193, ⟨.st [(0, 1), (1, 1), (2, 99)], 101⟩), (195, ⟨.st [(0, 1), (1, 1), (2, 1), (3, 2), (5, 1), (6, 1)], 7⟩), (196, ⟨.arr 33 195, 231⟩), (198, ⟨.st [(0, 1), (1, 1), (2, 1), (3, 1), (4, 231)], 235⟩), (199, ⟨.fn, 1⟩), (203, ⟨.st [(0, 1), (1, 1), (2, 1), (3, 1)], 4⟩), (205, ⟨.sli 288, 1⟩), (207, ⟨.st [(0, 2), (2, 1), (3, 1), (4, 1), (5, 1)], 6⟩), (210, ⟨.st [(0, 2), (2, 1)], 3⟩), (227, ⟨.st [(0, 1), (1, 1), (2, 1), (3, 1), (4, 2), (6, 1), (7, 1), (8, 1), (9, 1)], 10⟩), (236, ⟨.sli 171, 1⟩), (249, ⟨.sli 24, 1⟩), (251, ⟨.sli 254, 1⟩), (254, ⟨.st [(0, 1), (1, 1)], 2⟩), (258, ⟨.sli 185, 1⟩), (263, ⟨.fn, 1⟩), (281, ⟨.fn, 1⟩), (286, ⟨.sli 44, 1⟩), (288, ⟨.st [(0, 2), (2, 2), (4, 1), (5, 1), (6, 1)], 7⟩), (292, ⟨.fn, 1⟩), (303, ⟨.fn, 1⟩), (307, ⟨.ptr 195, 1⟩), (312, ⟨.fn, 1⟩), (313, ⟨.sli 179, 1⟩), (316, ⟨.fn, 1⟩), (318, ⟨.fn, 1⟩), (319, ⟨.fn, 1⟩), (325, ⟨.ptr 330, 1⟩), (327, ⟨.st [(0, 1), (1, 1)], 2⟩), (330, ⟨.st [(0, 2)], 2⟩), (334, ⟨.ptr 227, 1⟩), (361, ⟨.ptr 171, 1⟩), (368, ⟨.st [(0, 5), (5, 1)], 6⟩), (370, ⟨.fn, 1⟩), (384, ⟨.arr 17 9, 17⟩), (393, ⟨.st [(0, 1), (1, 1), (2, 1), (3, 1)], 4⟩), (394, ⟨.fn, 1⟩), (400, ⟨.st [(0, 1), (1, 1), (2, 1)], 3⟩), (402, ⟨.sli 400, 1⟩), (404, ⟨.arr 8 5, 8⟩), (405, ⟨.sli 5, 1⟩), (414, ⟨.fn, 1⟩)]
def ty (t : Nat) : TyR := lookN ⟨.oth, 0⟩ tyTab t
def bytesTab : List (Nat × Nat) := [(2, 8), (3, 8), (4, 1), (5, 1), (9, 16), (21, 4), (22, 8), (24, 16), (26, 16), (28, 40), (29, 24), (31, 80), (32, 8), (33, 8), (36, 8), (38, 8), (41, 4), (42, 2), (44, 8), (46, 64), (48, 8), (50, 8), (53, 32), (59, 24), (63, 24), (65, 128), (66, 24), (67, 24), (69, 48), (71, 40), (74, 24), (76, 96), (80, 16), (83, 24), (85, 56), (86, 8), (87, 24), (90, 8), (92, 8), (93, 8), (95, 56), (96, 8), (97, 8), (98, 8), (99, 8), (100, 8), (101, 24), (102, 24), (104, 336), (105, 1056), (106, 24), (108, 1088), (114, 32), (134, 8), (135, 8), (143, 32), (146, 8), (151, 8), (153, 8), (155, 24), (157, 32), (159, 40), (161, 8), (162, 24), (166, 8), (169, 32), (171, 56), (172, 1848), (174, 1848), (175, 24), (177, 32), (179, 24), (180, 792), (181, 24), (183, 848), (185, 24), (186, 792), (188, 808), (190, 24), (191, 792), (193, 808), (195, 48), (196, 1584), (198, 1616), (199, 8), (203, 32), (205, 24), (207, 64), (210, 24), (227, 104), (236, 24), (249, 24), (251, 24), (254, 16), (258, 24), (263, 8), (281, 8), (286, 24), (288, 56), (292, 8), (303, 8), (307, 8), (312, 8), (313, 24), (316, 8), (318, 8), (319, 8), (325, 8), (327, 24), (330, 24), (334, 8), (361, 8), (368, 40), (370, 8), (384, 272), (393, 32), (394, 8), (400, 24), (402, 24), (404, 8), (405, 24), (414, 8)]
def bytesT (t : Nat) : Nat := lookN 10000000 bytesTab t
def fieldTab : List (Nat × List Nat) := [(26, [3, 3]), (28, [24, 26, 4]), (31, [29, 3, 22, 22, 22, 3, 22, 3]), (44, [41, 42]), (46, [3, 3, 3, 22, 44, 44, 9]), (53, [3, 3, 41, 44]), (65, [31, 22, 3, 63, 36]), (69, [48, 4, 59, 3]), (71, [26, 41, 22, 3]), (76, [3, 44, 24, 22, 41, 74, 22, 22, 3]), (80, [44, 3]), (85, [66, 83, 38]), (95, [3, 3, 3, 41, 22, 22, 22]), (104, [76, 53, 50, 92, 93, 95, 96, 97, 98, 99, 100, 101, 41, 22, 4, 22, 102, 22]), (108, [105, 106, 22]), (114, [3, 44, 24]), (143, [3, 44, 9]), (157, [155, 3]), (159, [44, 44, 9, 22]), (166, [22]), (169, [166, 162]), (171, [3, 41, 22, 22, 162]), (174, [172]), (177, [175, 3]), (179, [3, 44, 22]), (183, [3, 22, 180, 181, 4, 41, 4]), (185, [3, 44, 22]), (188, [3, 22, 186]), (190, [3, 22, 22]), (193, [3, 22, 191]), (195, [3, 3, 3, 44, 22, 22]), (198, [3, 22, 22, 22, 196]), (203, [3, 3, 3, 41]), (207, [26, 41, 22, 3, 205]), (210, [44, 9]), (227, [3, 3, 41, 3, 44, 24, 4, 9, 59]), (254, [3, 3]), (288, [44, 44, 42, 286, 22]), (327, [9, 4]), (330, [327]), (368, [53, 3]), (393, [41, 3, 41, 3]), (400, [9, 4, 4])]
def fieldTys (t : Nat) : List Nat := lookN [] fieldTab t
def layT : List (Nat × List K) := [(2, [.int .i64]),
  (3, [.int .i64]),
  (4, [.bool]),
  (5, [.int .u8]),
  (9, [.str]),
  (21, [.int .i32]),
  (22, [.int .u64]),
  (24, [.cst 0]),
  (26, [.int .i64, .int .i64]),
  (28, [.cst 0, .int .i64, .int .i64, .bool]),
  (29, [.sli 28]),
  (31, [.sli 28, .int .i64, .opq, .int .u64, .int .u64, .int .i64, .int .u64, .int .i64]),
  (32, [.ptr 65]),
  (33, [.int .i64]),
  (36, [.ptr 85]),
  (38, [.ptr 157]),
  (41, [.int .u32]),
  (42, [.int .u16]),
  (44, [.int .u32, .int .u16]),
  (46, [.int .i64, .int .i64, .int .i64, .int .u64, .int .u32, .int .u16, .int .u32, .int .u16, .str]),
  (48, [.ptr 104]),
  (50, [.ptr 108]),
  (53, [.int .i64, .int .i64, .int .u32, .int .u32, .int .u16]),
  (59, [.sli 53]),
  (63, [.sli 69]),
  (65, [.sli 28, .int .i64, .opq, .int .u64, .int .u64, .int .i64, .int .u64, .int .i64, .int .u64, .int .i64, .sli 69, .ptr 85]),
  (66, [.sli 80]),
  (67, [.sli 71]),
  (69, [.ptr 104, .bool, .sli 53, .int .i64]),
  (71, [.int .i64, .int .i64, .int .u32, .int .u64, .int .i64]),
  (74, [.sli 114]),
  (76, [.int .i64, .int .u32, .int .u16, .cst 0, .opq, .int .u32, .sli 114, .int .u64, .int .u64, .int .i64]),
  (80, [.int .u32, .int .u16, .int .i64]),
  (83, [.sli 135]),
  (85, [.sli 80, .sli 135, .ptr 157]),
  (86, [.fn]),
  (87, [.sli 86]),
  (90, [.ptr 69]),
  (92, [.ptr 177]),
  (93, [.ptr 169]),
  (95, [.int .i64, .int .i64, .int .i64, .int .u32, .int .u64, .int .u64, .int .u64]),
  (96, [.ptr 174]),
  (97, [.ptr 183]),
  (98, [.ptr 188]),
  (99, [.ptr 193]),
  (100, [.ptr 198]),
  (101, [.sli 393]),
  (102, [.sli 210]),
  (104, [.int .i64, .int .u32, .int .u16, .cst 0, .opq, .int .u32, .sli 114, .int .u64, .int .u64, .int .i64, .int .i64, .int .i64, .int .u32, .int .u32, .int .u16, .ptr 108, .ptr 177, .ptr 169, .int .i64, .int .i64, .int .i64, .int .u32, .int .u64, .int .u64, .int .u64, .ptr 174, .ptr 183, .ptr 188, .ptr 193, .ptr 198, .sli 393, .int .u32, .int .u64, .bool, .int .u64, .sli 210, .int .u64]),
  (105, repK 33 [.int .i64, .int .i64, .int .u32, .int .u32, .int .u16]),
  (106, [.sli 203]),
  (108, appK (repK 33 [.int .i64, .int .i64, .int .u32, .int .u32, .int .u16]) [.sli 203, .int .u64]),
  (114, [.int .i64, .int .u32, .int .u16, .cst 0]),
  (134, [.fn]),
  (135, [.ptr 207]),
  (143, [.int .i64, .int .u32, .int .u16, .str]),
  (146, [.fn]),
  (151, [.int .u64]),
  (153, [.fn]),
  (155, [.sli 159]),
  (157, [.sli 159, .int .i64]),
  (159, [.int .u32, .int .u16, .int .u32, .int .u16, .str, .int .u64]),
  (161, [.cst 1]),
  (162, [.sli 3]),
  (166, [.opq]),
  (169, [.opq, .sli 3]),
  (171, [.int .i64, .int .u32, .int .u64, .int .u64, .sli 3]),
  (172, repK 33 [.int .i64, .int .u32, .int .u64, .int .u64, .sli 3]),
  (174, repK 33 [.int .i64, .int .u32, .int .u64, .int .u64, .sli 3]),
  (175, [.sli 368]),
  (177, [.sli 368, .int .i64]),
  (179, [.int .i64, .int .u32, .int .u16, .int .u64]),
  (180, repK 33 [.int .i64, .int .u32, .int .u16, .int .u64]),
  (181, [.sli 4]),
  (183, appK [.int .i64] (appK (repK 33 [.int .u64, .int .i64, .int .u32, .int .u16]) [.int .u64, .sli 4, .bool, .int .u32, .bool])),
  (185, [.int .i64, .int .u32, .int .u16, .int .u64]),
  (186, repK 33 [.int .i64, .int .u32, .int .u16, .int .u64]),
  (188, appK [.int .i64] (appK (repK 33 [.int .u64, .int .i64, .int .u32, .int .u16]) [.int .u64])),
  (190, [.int .i64, .int .u64, .int .u64]),
  (191, repK 33 [.int .i64, .int .u64, .int .u64]),
  (193, appK [.int .i64] (appK (repK 33 [.int .u64, .int .i64, .int .u64]) [.int .u64])),
  (195, [.int .i64, .int .i64, .int .i64, .int .u32, .int .u16, .int .u64, .int .u64]),
  (196, repK 33 [.int .i64, .int .i64, .int .i64, .int .u32, .int .u16, .int .u64, .int .u64]),
  (198, appK [.int .i64, .int .u64] (appK (repK 33 [.int .u64, .int .u64, .int .i64, .int .i64, .int .i64, .int .u32, .int .u16]) [.int .u64, .int .u64])),
  (199, [.fn]),
  (203, [.int .i64, .int .i64, .int .i64, .int .u32]),
  (205, [.sli 288]),
  (207, [.int .i64, .int .i64, .int .u32, .int .u64, .int .i64, .sli 288]),
  (210, [.int .u32, .int .u16, .str]),
  (227, [.int .i64, .int .i64, .int .u32, .int .i64, .int .u32, .int .u16, .cst 0, .bool, .str, .sli 53]),
  (236, [.sli 171]),
  (249, [.sli 24]),
  (251, [.sli 254]),
  (254, [.int .i64, .int .i64]),
  (258, [.sli 185]),
  (263, [.fn]),
  (281, [.fn]),
  (286, [.sli 44]),
  (288, [.int .u32, .int .u16, .int .u32, .int .u16, .int .u16, .sli 44, .int .u64]),
  (292, [.fn]),
  (303, [.fn]),
  (307, [.ptr 195]),
  (312, [.fn]),
  (313, [.sli 179]),
  (316, [.fn]),
  (318, [.fn]),
  (319, [.fn]),
  (325, [.ptr 330]),
  (327, [.str, .bool]),
  (330, [.str, .bool]),
  (334, [.ptr 227]),
  (361, [.ptr 171]),
  (368, [.int .i64, .int .i64, .int .u32, .int .u32, .int .u16, .int .i64]),
  (370, [.fn]),
  (384, [.str, .str, .str, .str, .str, .str, .str, .str, .str, .str, .str, .str, .str, .str, .str, .str, .str]),
  (393, [.int .u32, .int .i64, .int .u32, .int .i64]),
  (394, [.fn]),
  (400, [.str, .bool, .bool]),
  (402, [.sli 400]),
  (404, [.int .u8, .int .u8, .int .u8, .int .u8, .int .u8, .int .u8, .int .u8, .int .u8]),
  (405, [.sli 5]),
  (414, [.fn])]
def lay (t : Nat) : List K := lookN [] layT t
def capTT : List (Nat × List (List K)) := [(56, [[.int .u32, .int .u16, .int .i64]]), (148, [[.ptr 104], [.int .i64]]), (161, [[.int .u64]]), (175, [[.int .i64]]), (189, [[.ptr 183], [.int .u64]]), (192, [[.sli 3]]), (247, [[.cst 0], [.sli 24]]), (264, [[.int .i64, .int .i64, .int .u32, .int .i64, .int .u32, .int .u16, .cst 0, .bool, .str, .sli 53]])]
def capT (g : Nat) : List (List K) := lookN [] capTT g
def zeroTab : List (Nat × Bool) := [(2, true), (3, true), (4, true), (5, true), (9, true), (21, true), (22, true), (24, true), (26, true), (28, true), (29, true), (31, true), (32, true), (33, true), (36, true), (38, true), (41, true), (42, true), (44, true), (46, true), (48, true), (50, true), (53, true), (59, true), (63, true), (65, true), (66, true), (67, true), (69, true), (71, true), (74, true), (76, true), (80, true), (83, true), (85, true), (86, true), (87, true), (90, true), (92, true), (93, true), (95, true), (96, true), (97, true), (98, true), (99, true), (100, true), (101, true), (102, true), (104, true), (105, true), (106, true), (108, true), (114, true), (134, true), (135, true), (143, true), (146, true), (151, true), (153, true), (155, true), (157, true), (159, true), (161, true), (162, true), (166, true), (169, true), (171, true), (172, true), (174, true), (175, true), (177, true), (179, true), (180, true), (181, true), (183, true), (185, true), (186, true), (188, true), (190, true), (191, true), (193, true), (195, true), (196, true), (198, true), (199, true), (203, true), (205, true), (207, true), (210, true), (227, true), (236, true), (249, true), (251, true), (254, true), (258, true), (263, true), (281, true), (286, true), (288, true), (292, true), (303, true), (307, true), (312, true), (313, true), (316, true), (318, true), (319, true), (325, true), (327, true), (330, true), (334, true), (361, true), (368, true), (370, true), (384, true), (393, true), (394, true), (400, true), (402, true), (404, true), (405, true), (414, true)]
def zeroOk (t : Nat) : Bool := lookN false zeroTab t
def strPool : List (List UInt8 × Nat) := [([], 0), ([97], 4194305), ([98], 4718593), ([102], 5242881), ([110], 5767169), ([112], 6291457), ([114], 6815745), ([97, 102], 7340034), ([102, 114], 8388610), ([110, 97], 9437186), ([110, 98], 10485762), ([110, 114], 11534338), ([112, 114], 12582914), ([110, 97, 114], 13631491), ([0, 1, 2, 2, 3, 3, 3, 3, 4, 4, 4, 4, 4, 4, 4, 4, 5, 5, 5, 5, 5, 5, 5, 5, 5, 5, 5, 5, 5, 5, 5, 5, 6, 6, 6, 6, 6, 6, 6, 6, 6, 6, 6, 6, 6, 6, 6, 6, 6, 6, 6, 6, 6, 6, 6, 6, 6, 6, 6, 6, 6, 6, 6, 6, 7, 7, 7, 7, 7, 7, 7, 7, 7, 7, 7, 7, 7, 7, 7, 7, 7, 7, 7, 7, 7, 7, 7, 7, 7, 7, 7, 7, 7, 7, 7, 7, 7, 7, 7, 7, 7, 7, 7, 7, 7, 7, 7, 7, 7, 7, 7, 7, 7, 7, 7, 7, 7, 7, 7, 7, 7, 7, 7, 7, 7, 7, 7, 7, 8, 8, 8, 8, 8, 8, 8, 8, 8, 8, 8, 8, 8, 8, 8, 8, 8, 8, 8, 8, 8, 8, 8, 8, 8, 8, 8, 8, 8, 8, 8, 8, 8, 8, 8, 8, 8, 8, 8, 8, 8, 8, 8, 8, 8, 8, 8, 8, 8, 8, 8, 8, 8, 8, 8, 8, 8, 8, 8, 8, 8, 8, 8, 8, 8, 8, 8, 8, 8, 8, 8, 8, 8, 8, 8, 8, 8, 8, 8, 8, 8, 8, 8, 8, 8, 8, 8, 8, 8, 8, 8, 8, 8, 8, 8, 8, 8, 8, 8, 8, 8, 8, 8, 8, 8, 8, 8, 8, 8, 8, 8, 8, 8, 8, 8, 8, 8, 8, 8, 8, 8, 8, 8, 8, 8, 8, 8, 8], 15204608)]
def str0 : Nat := 6997451877392289091312183629836891135469939331966429821364568156288700953612870170495883063043199827861227387154891242390521705187351833173190643097429757977494183425159813725148647967800978992923527357491298499269471534302036770323056913764625360956385678402023257190236800454575239795490244210660664026700932394416193796238494739617620430115259513650536847707532777103289607521931900494866178105204768849413779143593478269912630965567835214690074734157495018897888987647128564483056824633336981298519791393692310677529621880507606403152925909498026092772734293682174069676573994868060649271646797368384502826885785692722432254550000613260016835927300339678014233464137711224285563112
def eqTab : List (Nat × Option (List K)) := [(44, some [.int .u32, .int .u16]), (53, some [.int .i64, .int .i64, .int .u32, .int .u32, .int .u16]), (80, some [.int .u32, .int .u16, .int .i64])]
def eqTy (t : Nat) : Option (List K) := lookN none eqTab t
def cstT : List (Nat × Value) := [(0, .complex .f64 0 0), (1, .float .f64 0), (2, .float .f64 4696837146684686336), (3, .complex .f64 4696837146684686336 4696837146684686336), (4, .float .f64 13920209183539462144)]
def cstV (i : Nat) : Value := lookN .nilIface cstT i
def fltPool : List (Nat × Nat) := [(0, 1), (4696837146684686336, 2), (13920209183539462144, 4)]
def cpxPool : List (Nat × Nat × Nat) := [(0, 0, 0), (4696837146684686336, 4696837146684686336, 3)]
def cBin (op : BinOp) (i j : Nat) : Option Ent :=
  match op, i, j with
  | .add, 0, 0 => some (.c 0)
  | .add, 0, 3 => some (.c 3)
  | .sub, 0, 0 => some (.c 0)
  | .sub, 3, 3 => some (.c 0)
  | .eql, 0, 0 => some (.b true)
  | .eql, 1, 1 => some (.b true)
  | .geq, 1, 4 => some (.b true)
  | .leq, 1, 2 => some (.b true)
  | _, _, _ => none
end Go.Proofs.YtaekfgbfpfecdaaGreat.VM

/- The machine's kinds of lanes, and how numbers stand for the model's values; no conditions but those that each theorem names. -/
namespace Go.Proofs.YtaekfgbfpfecdaaGreat.VM
open Go
set_option linter.unusedVariables false

theorem kidx_inj {a b : IntKind} (h : kidx a = kidx b) : a = b := by cases a <;> cases b <;> simp [kidx] at h <;> rfl
theorem kidx_lt (a : IntKind) : kidx a < 8 := by cases a <;> decide
theorem K.eq_of_beq {x y : K} (h : K.beq x y = true) : x = y := by
  have h' : x.code = y.code := Nat.eq_of_beq_eq_true h
  cases x <;> cases y <;> simp only [K.code] at h' <;> first | rfl | (exfalso; omega) | skip
  case int.int a b => have := kidx_inj (a := a) (b := b) (by omega); rw [this]
  case ptr.ptr a b => have : a = b := by omega
                      rw [this]
  case sli.sli a b => have : a = b := by omega
                      rw [this]
  case cst.cst a b => have : a = b := by omega
                      rw [this]
theorem beqKs_eq : ∀ {l l' : List K}, beqKs l l' = true → l = l'
  | [], [], _ => rfl
  | [], _ :: _, h => by cases h
  | _ :: _, [], h => by cases h
  | a :: l, b :: l', h => by
    simp only [beqKs, Bool.and_eq_true] at h
    rw [K.eq_of_beq h.1, beqKs_eq h.2]

/-- What a lane of memory stands for: a cell of a real block (mortal? spare cells behind it?), or nothing any more. -/
inductive LI where
  | cell (g o : Nat) (k : K) (mo : Bool) (sp : Nat)
  | dead
structure Nm where
  ln : Nat → Option LI
  st : Nat → Option UInt8

structure Ext (N N' : Nm) : Prop where
  ln : ∀ a i, N.ln a = some i → N'.ln a = some i ∨ (N'.ln a = some .dead ∧ ∃ g o k sp, i = .cell g o k true sp)
  st : ∀ x l, N.st x = some l → N'.st x = some l
theorem Ext.refl (N : Nm) : Ext N N := ⟨fun _ _ h => .inl h, fun _ _ h => h⟩
theorem Ext.trans {N N' N'' : Nm} (h : Ext N N') (h' : Ext N' N'') : Ext N N'' := by
  refine ⟨fun a i ha => ?_, fun x l hx => h'.st _ _ (h.st _ _ hx)⟩
  rcases h.ln a i ha with h1 | ⟨h1, h2⟩
  · exact h'.ln a i h1
  · rcases h'.ln a _ h1 with h3 | ⟨_, _, _, _, _, h4⟩
    · exact .inr ⟨h3, h2⟩
    · cases h4

/-- A pointer's number stands for the address of cells of these kinds. -/
def RP (N : Nm) (l : List K) (mo : Bool) (x g o : Nat) : Prop :=
  ∃ a, x = 64 * a ∧ ∀ j (h : j < l.length), (∃ m sp, N.ln (a + j) = some (.cell g (o + j) l[j] m sp) ∧ (m = true → mo = true)) ∨ (mo = true ∧ N.ln (a + j) = some .dead)
def RPv (N : Nm) (l : List K) (mo : Bool) (x : Nat) (v : Value) : Prop :=
  (x = 0 ∧ v = .pointer none) ∨ (x ≠ 0 ∧ ∃ g o, v = .pointer (some ⟨g, o, none⟩) ∧ RP N l mo x g o)

def Lv (N : Nm) (a g o : Nat) (k : K) (ex : Nat) : Prop :=
  N.ln a = some .dead ∨ ∃ m sp, N.ln a = some (.cell g o k m sp) ∧ (ex = 0 → m = true)
def kat (l : List K) (j : Nat) : K := l.getD (j % l.length) .bool
/-- A slice's number: nil; an empty one of unknown place; or place, length, capacity, and whether the capacity is the real one. -/
def RS (N : Nm) (l : List K) (x : Nat) (v : Value) : Prop :=
  (x = 0 ∧ v = .slice none 0 0) ∨ (x = 9223372036854775808 ∧ ∃ a c, v = .slice (some a) 0 c) ∨
  (∃ a g o c, slp x = 64 * a ∧ 1 ≤ a ∧ v = .slice (some ⟨g, o, none⟩) (sln x) c ∧ sln x ≤ scp x ∧ sex x ≤ 1 ∧ a + scp x * l.length < 4194304 ∧
    (∀ j, j < scp x * l.length → Lv N (a + j) g (o + j) (kat l j) (sex x)) ∧ (sex x = 1 → c = scp x) ∧
    (sex x = 0 → 1 ≤ scp x ∧ scp x ≤ c ∧ (N.ln (a + (scp x * l.length - 1)) = some .dead ∨
      ∃ k sp, N.ln (a + (scp x * l.length - 1)) = some (.cell g (o + (scp x * l.length - 1)) k true sp) ∧ (c - scp x) * l.length ≤ sp)))

def RF (N : Nm) (x : Nat) (v : Value) : Prop :=
  (x = 0 ∧ v = .nilFunc) ∨ ∃ g vs, Nat.land x 1023 = g + 1 ∧ v = .func (.func g) #[] vs ∧ vs.size = (capT g).length ∧
    ∀ i (h : i < (capT g).length) (h' : i < vs.size), ∃ g' o, vs[i] = .pointer (some ⟨g', o, none⟩) ∧ RP N (capT g)[i] false (fcap x i) g' o ∧ fcap x i ≠ 0

/-- The bytes that a string's handle stands for. -/
def StrAt (N : Nm) (x : Nat) (l : List UInt8) : Prop :=
  l.length = x % 65536 ∧ (∀ i (h : i < l.length), N.st (x / 65536 + 8 * i) = some l[i]) ∧ x / 65536 + 8 * (x % 65536) < 17592186044416
theorem StrAt.mono {N N' : Nm} (h : Ext N N') {x : Nat} {l : List UInt8} (r : StrAt N x l) : StrAt N' x l := ⟨r.1, fun i hi => h.st _ _ (r.2.1 i hi), r.2.2⟩
def RK (N : Nm) : K → Nat → Value → Prop
  | .int k, x, v => v = .int k (decI k x) ∧ x < limK k
  | .opq, _, v => ∃ z : Int, v = .int .u64 z ∧ 0 ≤ z ∧ z < 18446744073709551616
  | .bool, x, v => v = .bool (Nat.beq x 1) ∧ x < 2
  | .str, x, v => ∃ l, StrAt N x l ∧ v = .string ⟨l.toArray⟩
  | .ptr τ, x, v => RPv N (lay τ) false x v
  | .sli τ, x, v => RS N (lay τ) x v
  | .fn, x, v => RF N x v
  | .cst c, x, v => v = cstV c ∧ x = 0

theorem RP.mono {N N' : Nm} (h : Ext N N') {l : List K} {mo : Bool} {x g o : Nat} (r : RP N l mo x g o) : RP N' l mo x g o := by
  obtain ⟨a, ha, hj⟩ := r
  refine ⟨a, ha, fun j hl => ?_⟩
  rcases hj j hl with ⟨m, sp, h1, h2⟩ | ⟨h1, h2⟩
  · rcases h.ln _ _ h1 with h3 | ⟨h3, _, _, _, _, h4⟩
    · exact .inl ⟨m, sp, h3, h2⟩
    · injection h4 with _ _ _ h5 _
      exact .inr ⟨h2 h5, h3⟩
  · rcases h.ln _ _ h2 with h3 | ⟨_, _, _, _, _, h4⟩
    · exact .inr ⟨h1, h3⟩
    · cases h4
theorem RPv.mono {N N' : Nm} (h : Ext N N') {l : List K} {mo : Bool} {x : Nat} {v : Value} (r : RPv N l mo x v) : RPv N' l mo x v := by
  rcases r with r | ⟨h0, g, o, h1, h2⟩
  · exact .inl r
  · exact .inr ⟨h0, g, o, h1, h2.mono h⟩
theorem Lv.mono {N N' : Nm} (h : Ext N N') {a g o : Nat} {k : K} {ex : Nat} (r : Lv N a g o k ex) : Lv N' a g o k ex := by
  rcases r with r | ⟨m, sp, h1, h2⟩
  · rcases h.ln _ _ r with h3 | ⟨_, _, _, _, _, h4⟩
    · exact .inl h3
    · cases h4
  · rcases h.ln _ _ h1 with h3 | ⟨h3, _⟩
    · exact .inr ⟨m, sp, h3, h2⟩
    · exact .inl h3
theorem RS.mono {N N' : Nm} (h : Ext N N') {l : List K} {x : Nat} {v : Value} (r : RS N l x v) : RS N' l x v := by
  rcases r with r | r | ⟨a, g, o, c, h1, h2, h3, h4, h5, hb, h6, h7, h8⟩
  · exact .inl r
  · exact .inr (.inl r)
  · refine .inr (.inr ⟨a, g, o, c, h1, h2, h3, h4, h5, hb, fun j hj => (h6 j hj).mono h, h7, fun hx => ?_⟩)
    obtain ⟨p1, p2, p3⟩ := h8 hx
    refine ⟨p1, p2, ?_⟩
    rcases p3 with p3 | ⟨k, sp, p4, p5⟩
    · rcases h.ln _ _ p3 with h9 | ⟨_, _, _, _, _, h9⟩
      · exact .inl h9
      · cases h9
    · rcases h.ln _ _ p4 with h9 | ⟨h9, _⟩
      · exact .inr ⟨k, sp, h9, p5⟩
      · exact .inl h9
theorem RF.mono {N N' : Nm} (h : Ext N N') {x : Nat} {v : Value} (r : RF N x v) : RF N' x v := by
  rcases r with r | ⟨g, vs, h1, h2, h3, h4⟩
  · exact .inl r
  · refine .inr ⟨g, vs, h1, h2, h3, fun i hi hi' => ?_⟩
    obtain ⟨g', o, p1, p2, p3⟩ := h4 i hi hi'
    exact ⟨g', o, p1, p2.mono h, p3⟩
theorem RK.mono {N N' : Nm} (h : Ext N N') {k : K} {x : Nat} {v : Value} (r : RK N k x v) : RK N' k x v := by
  cases k <;> simp only [RK] at r ⊢
  case int => exact r
  case opq => exact r
  case bool => exact r
  case str => obtain ⟨l, h1, h2⟩ := r; exact ⟨l, h1.mono h, h2⟩
  case ptr => exact r.mono h
  case sli => exact r.mono h
  case fn => exact r.mono h
  case cst => exact r

def RL (N : Nm) (l : List K) (x : Nat) (vs : List Value) : Prop :=
  vs.length = l.length ∧ ∀ j (h : j < l.length) (h' : j < vs.length), RK N l[j] (lane x j) vs[j]
theorem RL.mono {N N' : Nm} (h : Ext N N') {l : List K} {x : Nat} {vs : List Value} (r : RL N l x vs) : RL N' l x vs :=
  ⟨r.1, fun j h1 h2 => (r.2 j h1 h2).mono h⟩

/-- A register's value. -/
def RSh (N : Nm) : Sh → Nat → Value → Prop
  | .one k, x, v => x < 2 ^ 64 ∧ RK N k x v
  | .agg l, x, v => x < 2 ^ (64 * l.length) ∧ ∃ vs : Array Value, v = .agg vs ∧ RL N l x vs.toList
  | .ptr l mo nn, x, v => x < 2 ^ 64 ∧ RPv N l mo x v ∧ (nn = true → x ≠ 0)
  | .sli l, x, v => x < 2 ^ 64 ∧ RS N l x v
theorem RSh.mono {N N' : Nm} (h : Ext N N') {s : Sh} {x : Nat} {v : Value} (r : RSh N s x v) : RSh N' s x v := by
  cases s <;> simp only [RSh] at r ⊢
  case one => exact ⟨r.1, r.2.mono h⟩
  case agg => obtain ⟨h0, vs, h1, h2⟩ := r; exact ⟨h0, vs, h1, h2.mono h⟩
  case ptr => exact ⟨r.1, r.2.1.mono h, r.2.2⟩
  case sli => exact ⟨r.1, r.2.mono h⟩

def zV : Nat → Value
  | 0 => .pointer none
  | 1 => .slice none 0 0
  | _ => .nilFunc
mutual
def REnt (N : Nm) (lam : Nat → Nat) : Ent → Value → Prop
  | .n sh _ x, v => RSh N sh x v
  | .b x, v => v = .bool x
  | .c i, v => v = cstV i
  | .z i, v => v = zV i
  | .tup l, v => ∃ vs : Array Value, v = .tuple vs ∧ REnts N lam l vs.toList
  | .lp i _ o, v => v = .pointer (some ⟨lam i, o, none⟩)
  | .ls i n, v => v = .slice (some ⟨lam i, 0, none⟩) n n
  | .it i, v => v = .pointer (some ⟨lam i, 0, none⟩)
  | .g _ _ gb e, v => (gb = true → REnt N lam e v) ∧ (gb = false → v = undef)
def REnts (N : Nm) (lam : Nat → Nat) : List Ent → List Value → Prop
  | [], vs => vs = []
  | e :: l, vs => ∃ v t, vs = v :: t ∧ REnt N lam e v ∧ REnts N lam l t
end
mutual
theorem REnt.mono {N N' : Nm} (h : Ext N N') {lam : Nat → Nat} : ∀ {e : Ent} {v : Value}, REnt N lam e v → REnt N' lam e v
  | .n .., _, r => by simp only [REnt] at r ⊢; exact r.mono h
  | .b .., _, r => by simpa only [REnt] using r
  | .c .., _, r => by simpa only [REnt] using r
  | .z .., _, r => by simpa only [REnt] using r
  | .tup l, _, r => by
    simp only [REnt] at r ⊢
    obtain ⟨vs, h1, h2⟩ := r
    exact ⟨vs, h1, REnts.mono h h2⟩
  | .lp .., _, r => by simpa only [REnt] using r
  | .ls .., _, r => by simpa only [REnt] using r
  | .it .., _, r => by simpa only [REnt] using r
  | .g _ _ _ e, _, r => by simp only [REnt] at r ⊢; exact ⟨fun hg => REnt.mono h (r.1 hg), r.2⟩
theorem REnts.mono {N N' : Nm} (h : Ext N N') {lam : Nat → Nat} : ∀ {l : List Ent} {vs : List Value}, REnts N lam l vs → REnts N' lam l vs
  | [], _, r => by simpa only [REnts] using r
  | e :: l, _, r => by
    simp only [REnts] at r ⊢
    obtain ⟨v, t, h1, h2, h3⟩ := r
    exact ⟨v, t, h1, REnt.mono h h2, REnts.mono h h3⟩
end
end Go.Proofs.YtaekfgbfpfecdaaGreat.VM

/- The machine's memory beside the model's world: cells are read, cells are written, blocks are made; no conditions but those that each theorem names. -/
namespace Go.Proofs.YtaekfgbfpfecdaaGreat.VM
open Go
set_option linter.unusedVariables false
variable {P : Program}

/-- The top of the machine's strings, in bits: their lowest 64 bits. -/
def sTop (s : Nat) : Nat := s % 18446744073709551616
structure Rel (N : Nm) (c : Core) (w : World) : Prop where
  cell : ∀ a g o k mo sp, N.ln a = some (.cell g o k mo sp) → ∃ arr ty v, w.heap[g]? = some (.cells arr ty (0, 0)) ∧ arr[o]? = some v ∧ RK N k (lane c.m a) v ∧ o + 1 + sp ≤ arr.size
  inj : ∀ a a' g o k mo sp k' mo' sp', N.ln a = some (.cell g o k mo sp) → N.ln a' = some (.cell g o k' mo' sp') → a = a'
  spare : ∀ a a' g o k mo sp o' k' mo' sp', N.ln a = some (.cell g o k mo sp) → N.ln a' = some (.cell g o' k' mo' sp') → o < o' → o + sp < o'
  dead : ∀ a, N.ln a = some .dead → c.d.testBit a = true
  top : ∀ a i, N.ln a = some i → 1 ≤ a ∧ a < c.t
  mlt : c.m < 2 ^ (64 * c.t)
  tl : 1 ≤ c.t ∧ c.t < 4194304
  str : ∀ p b, N.st p = some b → b = UInt8.ofNat (c.s / 2 ^ p % 256) ∧ p + 8 ≤ sTop c.s
  spos : (c.s < 2 ^ sTop c.s ∧ 64 ≤ sTop c.s) ∧ ∀ p b, N.st p = some b → 64 ≤ p

theorem Rel.bytes {N : Nm} {c : Core} {w : World} (h : Rel N c w) {x : Nat} {l : List UInt8} (hl : StrAt N x l) : l = bytesOf c.s x := by
  apply List.ext_getElem?
  intro i
  rcases Nat.lt_or_ge i l.length with hi | hi
  · rw [List.getElem?_eq_getElem hi]
    have h1 := (h.str _ _ (hl.2.1 i hi)).1
    have h2 : i < x % 65536 := by rw [← hl.1]; exact hi
    simp [bytesOf, h2, ← h1]
  · rw [List.getElem?_eq_none hi, List.getElem?_eq_none]
    simp [bytesOf, ← hl.1, hi]
/-- Blocks that nobody stands for. -/
def Off (G : Nat → Prop) (N : Nm) : Prop := ∀ g a o k mo sp, G g → N.ln a ≠ some (.cell g o k mo sp)
def Same (G : Nat → Prop) (w w' : World) : Prop := (w'.os = w.os ∧ w'.output = w.output) ∧ ∀ g, G g → w'.heap[g]? = w.heap[g]?
def In (G : Nat → Prop) (w : World) : Prop := ∀ g, G g → g < w.heap.size
theorem Same.refl (G : Nat → Prop) (w : World) : Same G w w := ⟨⟨rfl, rfl⟩, fun _ _ => rfl⟩
theorem Same.trans {G : Nat → Prop} {w w' w'' : World} (h : Same G w w') (h' : Same G w' w'') : Same G w w'' := ⟨⟨h'.1.1.trans h.1.1, h'.1.2.trans h.1.2⟩, fun g hg => (h'.2 g hg).trans (h.2 g hg)⟩
theorem In.le {G : Nat → Prop} {w w' : World} (h : In G w) (hl : w.heap.size ≤ w'.heap.size) : In G w' := fun g hg => Nat.lt_of_lt_of_le (h g hg) hl

theorem RK.oneCell {N : Nm} {k : K} {x : Nat} {v : Value} (hc : ∀ i, (cstV i).oneCell' = true) (h : RK N k x v) : v.oneCell' = true := by
  cases k <;> simp only [RK] at h
  case int => rw [h.1]; rfl
  case opq => obtain ⟨_, rfl, _⟩ := h; rfl
  case bool => rw [h.1]; rfl
  case str => obtain ⟨_, _, rfl⟩ := h; rfl
  case ptr => rcases h with ⟨_, rfl⟩ | ⟨_, _, _, rfl, _⟩ <;> rfl
  case sli => rcases h with ⟨_, rfl⟩ | ⟨_, _, _, rfl⟩ | ⟨_, _, _, _, _, _, rfl, _⟩ <;> rfl
  case fn => rcases h with ⟨_, rfl⟩ | ⟨_, _, _, rfl, _⟩ <;> rfl
  case cst => rw [h.1]; exact hc _

/-- All lanes of a pointer are alive. -/
def alive (c : Core) (mo : Bool) (x n : Nat) : Prop := mo = true → ∀ j, j < n → c.d.testBit (x / 64 + j) = false

/-- What a pointer stands for, cell by cell. -/
theorem RP.row {N : Nm} {c : Core} {w : World} (h : Rel N c w) {l : List K} {mo : Bool} {x g o : Nat} (r : RP N l mo x g o) (hl : 0 < l.length) (ha : alive c mo x l.length) :
    ∃ a arr ty, x = 64 * a ∧ 1 ≤ a ∧ w.heap[g]? = some (.cells arr ty (0, 0)) ∧ o + l.length ≤ arr.size ∧ a + l.length ≤ c.t ∧
      ∀ j (hj : j < l.length), (∃ m sp, N.ln (a + j) = some (.cell g (o + j) l[j] m sp)) ∧ ∃ v, arr[o + j]? = some v ∧ RK N l[j] (lane c.m (a + j)) v := by
  obtain ⟨a, rfl, hj⟩ := r
  have hcell : ∀ j (hj : j < l.length), ∃ m sp, N.ln (a + j) = some (.cell g (o + j) l[j] m sp) := by
    intro j hjl
    rcases hj j hjl with ⟨m, sp, h1, _⟩ | ⟨h1, h2⟩
    · exact ⟨m, sp, h1⟩
    · have h3 := h.dead _ h2
      have h4 := ha h1 j hjl
      rw [Nat.mul_div_cancel_left _ (by omega)] at h4
      rw [h3] at h4; cases h4
  obtain ⟨m0, sp0, h0⟩ := hcell 0 hl
  obtain ⟨arr, ty, v0, hw, hv0, _, _⟩ := h.cell _ _ _ _ _ _ h0
  have hrow : ∀ j (hj : j < l.length), (∃ m sp, N.ln (a + j) = some (.cell g (o + j) l[j] m sp)) ∧ ∃ v, arr[o + j]? = some v ∧ RK N l[j] (lane c.m (a + j)) v := by
    intro j hjl
    obtain ⟨m, sp, h1⟩ := hcell j hjl
    refine ⟨⟨m, sp, h1⟩, ?_⟩
    obtain ⟨arr', ty', v, hw', hv, hk, _⟩ := h.cell _ _ _ _ _ _ h1
    rw [hw] at hw'; cases hw'
    exact ⟨v, hv, hk⟩
  refine ⟨a, arr, ty, rfl, (h.top _ _ h0).1, hw, ?_, ?_, hrow⟩
  · obtain ⟨_, v, hv, _⟩ := hrow (l.length - 1) (by omega)
    have := (Array.getElem?_eq_some_iff.1 hv).1
    omega
  · obtain ⟨m, sp, h1⟩ := hcell (l.length - 1) (by omega)
    have := (h.top _ _ h1).2
    omega

theorem arr_slice {arr : Array Value} {o n : Nat} (h : o + n ≤ arr.size) : ((arr.toList.drop o).take n).length = n ∧ ∀ j, j < n → ((arr.toList.drop o).take n)[j]? = arr[o + j]? := by
  refine ⟨?_, fun j hj => ?_⟩
  · have : arr.toList.length = arr.size := rfl
    simp; omega
  · rw [List.getElem?_take_of_lt hj, List.getElem?_drop, Array.getElem?_toList]

/-- A load, of one cell or of a row. -/
theorem load_ptr {N : Nm} {c : Core} {w : World} (h : Rel N c w) {l : List K} {mo : Bool} {x : Nat} {u : Value} (r : RPv N l mo x u) (hx : x ≠ 0) (hl : 0 < l.length) (ha : alive c mo x l.length)
    {t : TypeId} {d : TypeDesc} (hu : P.underlying t = some d) (hi : (P.info? t).map (·.size) = some l.length) :
    (d.isRow = true → ∃ vs : Array Value, (Instr.loadAt t u).run P w = .ok (.agg vs) w ∧ RL N l (rd c.m x l.length) vs.toList) ∧
    (d.isRow = false → ∃ v, (Instr.loadAt t u).run P w = .ok v w ∧ ∃ k, l.head? = some k ∧ RK N k (rd c.m x 1) v) := by
  rcases r with ⟨r, _⟩ | ⟨_, g, o, rfl, r⟩
  · exact absurd r hx
  obtain ⟨a, arr, ty, rfl, ha1, hw, hsz, ht, hrow⟩ := r.row h hl ha
  constructor
  · intro hd
    obtain ⟨hlen, hget⟩ := arr_slice (arr := arr) (o := o) (n := l.length) hsz
    have hc2 : w.rangeAt g o ((arr.toList.drop o).take l.length) := by
      intro i u hu
      have hin : i < l.length := by
        have := (List.getElem?_eq_some_iff.1 hu).1
        omega
      rw [hget i hin] at hu
      simp [World.cell?, hw, hu]
    refine ⟨_, run_loadAt_mid w g o t _ d hc2 hu hd (by rw [hi, hlen]), ?_, ?_⟩
    · simpa using hlen
    · intro j h1 h2
      obtain ⟨_, v, hv, hk⟩ := hrow j h1
      have h3 : ((arr.toList.drop o).take l.length).toArray.toList[j] = v := by
        have := hget j h1
        rw [hv] at this
        have h4 : j < ((arr.toList.drop o).take l.length).length := by omega
        rw [List.getElem?_eq_getElem h4] at this
        exact Option.some.inj this
      rw [h3, lane_rd, if_pos h1]
      exact hk
  · intro hd
    obtain ⟨_, v, hv, hk⟩ := hrow 0 hl
    refine ⟨v, ?_, l[0], ?_, ?_⟩
    · have hagg : (isAgg t).run P w = .ok false w := by
        unfold isAgg
        rw [Sem.run_bind, run_underlying hu w]
        cases d <;> simp_all
      have hc : w.cell? ⟨g, o, none⟩ = some v := by simpa [World.cell?, hw] using hv
      simp [Instr.loadAt, Instr.sureAddr, loadVar, hagg, hc]
    · cases l with
      | nil => simp at hl
      | cons => rfl
    · have e : rd c.m (64 * a) 1 = lane c.m a := by
        have h1 := lane_rd c.m a 1 0
        simp only [Nat.lt_one_iff, if_true, Nat.add_zero] at h1
        rw [← h1, lane_one (by simpa using rd_lt c.m (64 * a) 1)]
      rw [e]
      simpa using hk

/-- The streams are as they were. -/
def Out (w w' : World) : Prop := w'.os = w.os ∧ w'.output = w.output
/-- Some cells of one block are written. -/
structure Wrote (w w' : World) (g o : Nat) (vs : List Value) : Prop where
  out : w'.os = w.os ∧ w'.output = w.output
  size : w'.heap.size = w.heap.size
  other : ∀ g', g' ≠ g → w'.heap[g']? = w.heap[g']?
  here : ∀ arr ty fz, w.heap[g]? = some (.cells arr ty fz) → ∃ arr', w'.heap[g]? = some (.cells arr' ty fz) ∧ arr'.size = arr.size ∧
    (∀ j v, vs[j]? = some v → o + j < arr.size → arr'[o + j]? = some v) ∧ ∀ i, (i < o ∨ o + vs.length ≤ i) → arr'[i]? = arr[i]?
theorem add_at (g o j : Nat) : (⟨g, o, none⟩ : Addr).add j = ⟨g, o + j, none⟩ := by unfold Addr.add; split <;> simp_all

theorem store_cells (g o : Nat) : ∀ (vs : List Value) (i : Nat) (w : World) (arr : Array Value) (ty : TypeId), w.heap[g]? = some (.cells arr ty (0, 0)) → o + i + vs.length ≤ arr.size →
    (∀ v ∈ vs, v.oneCell' = true) → ∃ w', (storeCells ⟨g, o, none⟩ vs i).run P w = .ok () w' ∧ Wrote w w' g (o + i) vs
  | [], i, w, arr, ty, hw, hl, h1 => by
    refine ⟨w, by simp [storeCells], ⟨rfl, rfl⟩, rfl, fun _ _ => rfl, fun arr' ty' fz hw' => ⟨arr', hw', rfl, fun j v hv => by simp at hv, fun _ _ => rfl⟩⟩
  | v :: vs, i, w, arr, ty, hw, hl, h1 => by
    simp only [List.length_cons] at hl
    have hin : o + i < arr.size := by omega
    have hcell : w.cell? ⟨g, o + i, none⟩ = some arr[o + i] := by simp [World.cell?, hw, hin]
    have hfz : w.frozen? ⟨g, o + i, none⟩ = false := by simp [World.frozen?, hw]
    have hst : (store ((⟨g, o, none⟩ : Addr).add i) v).run P w = .ok () (w.setCell ⟨g, o + i, none⟩ v) := by
      rw [add_at, run_store P w _ v _ (h1 v (by simp)), hcell]
      simp [hfz]
    have hnew : (w.setCell ⟨g, o + i, none⟩ v).heap[g]? = some (.cells (arr.setIfInBounds (o + i) v) ty (0, 0)) := by
      simp [World.setCell, Array.getElem?_modify, hw]
    have hold : ∀ g', g' ≠ g → (w.setCell ⟨g, o + i, none⟩ v).heap[g']? = w.heap[g']? := by
      intro g' hg
      simp [World.setCell, Array.getElem?_modify, Ne.symm hg]
    obtain ⟨w', hr, st⟩ := store_cells g o vs (i + 1) _ _ ty hnew (by simp; omega) (fun u hu => h1 u (by simp [hu]))
    refine ⟨w', by simp only [storeCells, Sem.run_bind, hst, Result.andThen_ok, hr], ⟨st.out.1, st.out.2⟩, ?_, ?_, ?_⟩
    · rw [st.size]; simp [World.setCell]
    · intro g' hg; rw [st.other g' hg, hold g' hg]
    · intro arr0 ty0 fz0 hw0
      rw [hw] at hw0; cases hw0
      obtain ⟨arr', e1, e2, e3, e4⟩ := st.here _ _ _ hnew
      refine ⟨arr', e1, by simpa using e2, ?_, ?_⟩
      · intro j u hj hb
        cases j with
        | zero =>
          simp at hj; subst hj
          rw [Nat.add_zero, e4 (o + i) (.inl (by omega))]
          simp [hin]
        | succ j =>
          have := e3 j u (by simpa using hj) (by simp; omega)
          rw [show o + i + (j + 1) = o + (i + 1) + j by omega]
          exact this
      · intro k hk
        simp only [List.length_cons] at hk
        rw [e4 k (by omega), Array.getElem?_setIfInBounds_ne (by omega)]

/-- The machine's memory follows. -/
theorem Rel.put {N : Nm} {c : Core} {w w' : World} (h : Rel N c w) {l : List K} {mo : Bool} {x g o : Nat} (r : RP N l mo x g o) (hl : 0 < l.length) (ha : alive c mo x l.length)
    {y : Nat} {vs : List Value} (hy : y < 2 ^ (64 * l.length)) (hv : RL N l y vs) (hw : Wrote w w' g o vs) : Rel N { c with m := wrv c.m x l.length y } w' := by
  obtain ⟨a, arr, ty, rfl, ha1, hg, hsz, ht, hrow⟩ := r.row h hl ha
  obtain ⟨arr', e1, e2, e3, e4⟩ := hw.here _ _ _ hg
  refine ⟨?_, h.inj, h.spare, h.dead, h.top, ?_, h.tl, h.str, h.spos⟩
  · intro b gb ob k m sp hb
    obtain ⟨arrb, tyb, v, hwb, hvb, hk, hs⟩ := h.cell _ _ _ _ _ _ hb
    have hb1 := (h.top _ _ hb).1
    show ∃ arr ty v, w'.heap[gb]? = some (.cells arr ty (0, 0)) ∧ arr[ob]? = some v ∧ RK N k (lane (wrv c.m (64 * a) l.length y) b) v ∧ ob + 1 + sp ≤ arr.size
    rw [lane_wrv ha1 hy hb1]
    by_cases hin : a ≤ b ∧ b < a + l.length
    · obtain ⟨j, rfl⟩ : ∃ j, b = a + j := ⟨b - a, by omega⟩
      have hj : j < l.length := by omega
      obtain ⟨⟨m', sp', h1⟩, _⟩ := hrow j hj
      rw [h1] at hb
      injection hb with hb
      injection hb with q1 q2 q3 q4 q5
      subst q1 q2 q3 q4 q5
      rw [hg] at hwb; cases hwb
      have hjv : j < vs.length := by have := hv.1; omega
      refine ⟨arr', _, vs[j], e1, e3 j _ (List.getElem?_eq_getElem hjv) (by omega), ?_, by omega⟩
      rw [if_pos hin, Nat.add_sub_cancel_left]
      exact hv.2 j hj hjv
    · rw [if_neg hin]
      by_cases hgg : gb = g
      · subst hgg
        rw [hg] at hwb; cases hwb
        refine ⟨arr', _, v, e1, ?_, hk, by omega⟩
        rw [e4 ob ?_]
        · exact hvb
        · rcases Nat.lt_or_ge ob o with q | q
          · exact .inl q
          · refine .inr ?_
            rcases Nat.lt_or_ge ob (o + l.length) with q2 | q2
            · exfalso
              obtain ⟨⟨m', sp', h1⟩, _⟩ := hrow (ob - o) (by omega)
              rw [show o + (ob - o) = ob by omega] at h1
              have := h.inj _ _ _ _ _ _ _ _ _ _ hb h1
              omega
            · have := hv.1; omega
      · exact ⟨arrb, _, v, by rw [hw.other _ hgg]; exact hwb, hvb, hk, hs⟩
  · exact wrv_lt h.mlt (by omega) ha1 (by omega) hy

theorem Wrote.same {G : Nat → Prop} {w w' : World} {g o : Nat} {vs : List Value} (hw : Wrote w w' g o vs) (hg : ¬ G g) : Same G w w' :=
  ⟨hw.out, fun g' h' => hw.other g' fun e => hg (e ▸ h')⟩

/-- A store through a pointer. -/
theorem store_ptr (hcst : ∀ i, (cstV i).oneCell' = true) {N : Nm} {c : Core} {w : World} (h : Rel N c w) {l : List K} {mo : Bool} {x : Nat} {u : Value} (r : RPv N l mo x u) (hx : x ≠ 0) (hl : 0 < l.length) (ha : alive c mo x l.length)
    {t : TypeId} (hi : (P.info? t).map (·.size) = some l.length) {y : Nat} {v : Value} (hy : y < 2 ^ (64 * l.length)) (hv : RL N l y v.cells.toList)
    {G : Nat → Prop} (hG : Off G N) :
    ∃ w', (Instr.storeAt t u v).run P w = .ok () w' ∧ Rel N { c with m := wrv c.m x l.length y } w' ∧ Same G w w' ∧ w'.heap.size = w.heap.size := by
  rcases r with ⟨r, _⟩ | ⟨_, g, o, rfl, r⟩
  · exact absurd r hx
  obtain ⟨a, arr, ty, rfl, ha1, hg, hsz, ht, hrow⟩ := r.row h hl ha
  obtain ⟨w', hr, hw⟩ := store_cells (P := P) g o v.cells.toList 0 w arr ty hg (by have := hv.1; omega) (by
    intro z hz
    obtain ⟨j, hj, rfl⟩ := List.mem_iff_getElem.1 hz
    exact (hv.2 j (by have := hv.1; omega) hj).oneCell hcst)
  refine ⟨w', ?_, h.put r hl ha hy hv hw, hw.same fun hGg => ?_, hw.size⟩
  · cases hq : P.info? t with
    | none => simp [hq] at hi
    | some i =>
      have hs : i.size = l.length := by simpa [hq] using hi
      have hs2 : v.cells.size = i.size := by
        have : v.cells.toList.length = v.cells.size := rfl
        have := hv.1
        omega
      simp [Instr.storeAt, Instr.sureAddr, storeVar, sizeOf, typeInfo, hq, hs2, hr]
  · obtain ⟨⟨m', sp', h1⟩, _⟩ := hrow 0 hl
    exact hG g _ _ _ _ _ hGg h1
end Go.Proofs.YtaekfgbfpfecdaaGreat.VM

/- The machine: what it does with the operations of the model's code; no conditions. -/
namespace Go.Proofs.YtaekfgbfpfecdaaGreat.VM
open Go
set_option linter.unusedVariables false

/-- A number is reckoned out before it goes on. -/
def force (e : Nat) (k : Nat → Bool) : Bool := @Nat.rec (fun _ => Bool) false (fun n _ => k n) (Nat.succ e)
def join {α : Type} (f : α) (g : α → Bool) : Bool := g f
def loopN {α : Type} (fuel : Nat) (z : α) (f : α → α) : α := @Nat.rec (fun _ => α) z (fun _ ih => f ih) fuel
def NF : Nat → Type
  | 0 => Nat → Nat → Nat → Nat → Bool
  | n + 1 => Nat → NF n
def NF.ap : (n : Nat) → NF n → List Nat → Core → Bool
  | 0, f, [], c => f c.m c.t c.s c.d
  | n + 1, f, x :: l, c => NF.ap n (f x) l c
  | _, _, _, _ => false
def NF.of : (n : Nat) → (List Nat → Core → Bool) → NF n
  | 0, g => fun m t s d => g [] ⟨m, t, s, d⟩
  | n + 1, g => fun x => NF.of n (fun l c => g (x :: l) c)
def forceAll : List (Bool × Nat) → (List Nat → Bool) → Bool
  | [], k => k []
  | (true, x) :: l, k => forceAll l (fun xs => k (x :: xs))
  | (false, x) :: l, k => force x (fun v => forceAll l (fun xs => k (v :: xs)))
def b2n (b : Bool) : Nat := cond b 1 0
def notB (b : Bool) : Bool := cond b false true
def eqB (a b : Bool) : Bool := cond a b (notB b)

inductive LoE where
  | blk (l : List K) (x : Nat)
  | itr (h pos : Nat)
inductive PSh where
  | sh (s : Sh)
  | loc (l : List K)
  | itr
abbrev Env := List (Nat × Option Ent)
abbrev Lo := List (Nat × Option LoE)
def getA {α : Type} : List (Nat × Option α) → Nat → Option α
  | [], _ => none
  | (a, x) :: l, i => cond (Nat.beq a i) x (getA l i)
def noG (s : Nat) : Env → Bool
  | [] => true
  | (_, some (.g j _ _ _)) :: l => cond (Nat.beq j s) false (noG s l)
  | _ :: l => noG s l
def unlock (s : Nat) (want : Bool) : Env → Env
  | [] => []
  | (a, some (.g j w gb e)) :: l => (a, some (cond (Nat.beq j s && eqB w want) e (.g j w gb e))) :: unlock s want l
  | x :: l => x :: unlock s want l

/-- A function that the machine may call: the shapes of its parameters, of its results, itself. -/
structure FunE where
  ps : List Sh
  rs : List Sh
  f : List Nat → Core → (List Nat → Core → Bool) → Bool
/-- What is known of the function at hand: the slots whose variables lie in registers; those that are reckoned at once; the callees; who may be called through a slot. -/
structure FI where
  nt : Nat
  locs : List Nat
  forced : List Nat
  fns : List (Nat × FunE)
  cands : List (Nat × List Nat)
def memN : Nat → List Nat → Bool
  | _, [] => false
  | n, a :: l => cond (Nat.beq a n) true (memN n l)

/-! ### Operands -/
def limN : IntKind → Nat
  | .i64 => 9223372036854775808
  | k => limK k
def natEnt (k : IntKind) : Int → Option Ent
  | .ofNat n => cond (Nat.blt n (limN k)) (some (.n (.one (.int k)) true n)) none
  | .negSucc n => match k with
    | .i64 => cond (Nat.blt n 9223372036854775808) (some (.n (.one (.int .i64)) true (Nat.sub 18446744073709551615 n))) none
    | _ => none
def bytesEq : List UInt8 → List UInt8 → Bool
  | [], [] => true
  | a :: l, b :: l' => cond (Nat.beq a.toNat b.toNat) (bytesEq l l') false
  | _, _ => false
def findStr (l : List UInt8) : List (List UInt8 × Nat) → Option Nat
  | [] => none
  | (b, h) :: r => cond (bytesEq l b) (some h) (findStr l r)
def findF (x : Nat) : List (Nat × Nat) → Option Nat
  | [] => none
  | (b, i) :: r => cond (Nat.beq x b) (some i) (findF x r)
def findC (x y : Nat) : List (Nat × Nat × Nat) → Option Nat
  | [] => none
  | (a, b, i) :: r => cond (Nat.beq x a && Nat.beq y b) (some i) (findC x y r)
def constEnt : Value → Option Ent
  | .int k z => natEnt k z
  | .bool b => some (.b b)
  | .string s => (findStr s.data.toList strPool).map (fun h => .n (.one .str) true h)
  | .pointer none => some (.z 0)
  | .slice none 0 0 => some (.z 1)
  | .nilFunc => some (.z 2)
  | .float .f64 b => (findF b fltPool).map .c
  | .complex .f64 a b => (findC a b cpxPool).map .c
  | _ => none
/-- What an operand is: nothing of what hangs on a guard. -/
def rawO (env : Env) : Operand → Option Ent
  | .tmp t => getA env t
  | .const v => constEnt v
  | .func f => match capT f with
    | [] => cond (Nat.blt f 1000) (some (.n (.one .fn) true (Nat.succ f))) none
    | _ => none
  | .global _ => none
def evO (env : Env) (x : Operand) : Option Ent :=
  match rawO env x with
  | some (.g _ _ _ _) => none
  | r => r
def asB : Ent → Option Bool
  | .b x => some x
  | .n (.one .bool) _ x => some (Nat.beq x 1)
  | _ => none

/-! ### Shapes -/
def entK (k : K) (fl : Bool) (x : Nat) : Ent :=
  match k with
  | .ptr t => .n (.ptr (lay t) false false) fl x
  | .sli t => .n (.sli (lay t)) fl x
  | .cst i => .c i
  | k => .n (.one k) fl x
def entSh (s : Sh) (x : Nat) : Ent :=
  match s with
  | .one (.cst i) => .c i
  | s => .n s true x
def fitK (a b : K) : Bool := K.beq a b || (K.beq b .opq && K.beq a (.int .u64))
def fitKs : List K → List K → Bool
  | [], [] => true
  | a :: l, b :: l' => cond (fitK a b) (fitKs l l') false
  | _, _ => false
def fitShK (s : Sh) (k : K) : Bool :=
  match s, k with
  | .one a, b => fitK a b
  | .ptr l false _, .ptr t => beqKs l (lay t)
  | .sli l, .sli t => beqKs l (lay t)
  | _, _ => false
def fitSh (a b : Sh) : Bool :=
  match a, b with
  | .one k, .one k' => fitK k k'
  | .agg l, .agg l' => fitKs l l'
  | .ptr l m n, .ptr l' m' n' => beqKs l l' && (m' || !m) && (n || !n')
  | .sli l, .sli l' => beqKs l l'
  | _, _ => false
/-- An entry as a number of a shape. -/
def toN (s : Sh) (e : Ent) : Option (Bool × Nat) :=
  match e with
  | .n a fl x => cond (fitSh a s) (some (fl, x)) none
  | .b x => match s with | .one .bool => some (false, b2n x) | _ => none
  | .c i => match s with | .one (.cst j) => cond (Nat.beq i j) (some (true, 0)) none | _ => none
  | .z i => match s with
    | .ptr _ _ false => cond (Nat.beq i 0) (some (true, 0)) none
    | .sli _ => cond (Nat.beq i 1) (some (true, 0)) none
    | .one .fn => cond (Nat.beq i 2) (some (true, 0)) none
    | _ => none
  | _ => none
/-- An entry as lanes of these kinds. -/
def toLay (l : List K) (agg : Bool) (e : Ent) : Option Nat :=
  match agg with
  | true => match e with
    | .n (.agg l') _ x => cond (fitKs l' l) (some x) none
    | _ => none
  | false => match l with
    | [k] => match e with
      | .n a _ x => cond (fitShK a k) (some x) none
      | .b x => match k with | .bool => some (b2n x) | _ => none
      | .c i => match k with | .cst j => cond (Nat.beq i j) (some 0) none | _ => none
      | .z i => match k with
        | .ptr _ => cond (Nat.beq i 0) (some 0) none
        | .sli _ => cond (Nat.beq i 1) (some 0) none
        | .fn => cond (Nat.beq i 2) (some 0) none
        | _ => none
      | _ => none
    | _ => none
def takeK : Nat → List K → List K
  | 0, _ => []
  | n + 1, a :: l => a :: takeK n l
  | _ + 1, [] => []
def dropK : Nat → List K → List K
  | 0, l => l
  | n + 1, _ :: l => dropK n l
  | _ + 1, [] => []
def lenK : List K → Nat
  | [] => 0
  | _ :: l => Nat.succ (lenK l)

abbrev Sem1 := Option (Option Bool × Ent)
def deadBits (d x n : Nat) : Nat := Nat.land (Nat.shiftRight d (Nat.shiftRight x 6)) (Nat.sub (Nat.shiftLeft 1 n) 1)
/-- May these lanes be looked at? -/
def ptrChk (d : Nat) (mo nn : Bool) (x n : Nat) : Option Bool :=
  match mo, nn with
  | false, true => none
  | false, false => some (notB (Nat.beq x 0))
  | true, true => some (Nat.beq (deadBits d x n) 0)
  | true, false => some (cond (Nat.beq x 0) false (Nat.beq (deadBits d x n) 0))
def andC (a : Option Bool) (b : Option Bool) : Option Bool :=
  match a, b with
  | none, b => b
  | a, none => a
  | some x, some y => some (cond x y false)

/-- The content of a local variable. -/
def locOf (lo : Lo) (i : Nat) : Option (List K × Nat) :=
  match getA lo i with
  | some (.blk l x) => some (l, x)
  | _ => none
def entLay (agg : Bool) (l : List K) (fl : Bool) (x : Nat) : Option Ent :=
  match agg with
  | true => some (.n (.agg l) fl x)
  | false => match l with
    | [k] => some (entK k fl x)
    | _ => none
def partOf (l : List K) (x o n : Nat) : Nat :=
  cond (Nat.beq o 0 && Nat.beq n (lenK l)) x (rd x (Nat.shiftLeft o 6) n)

def semLoad (t : Nat) (e : Ent) (lo : Lo) (c : Core) : Sem1 :=
  match ty t with
  | ⟨d, n⟩ => match e with
    | .n (.ptr l mo nn) _ x =>
      cond (Nat.beq n (lenK l) && Nat.blt 0 n)
        (match entLay d.isRow l false (rd c.m x n) with
        | some r => some (ptrChk c.d mo nn x n, r)
        | none => none) none
    | .lp i l o =>
      cond (Nat.beq n (lenK l) && Nat.blt 0 n)
        (match locOf lo i with
        | some (L, y) => cond (beqKs l (takeK n (dropK o L)))
          (match entLay d.isRow l false (partOf L y o n) with
          | some r => some (none, r)
          | none => none) none
        | none => none) none
    | _ => none
def nthF : Nat → List (Nat × Nat) → Option (Nat × Nat)
  | _, [] => none
  | 0, x :: _ => some x
  | n + 1, _ :: l => nthF n l
def addN (x o : Nat) : Nat := cond (Nat.beq o 0) x (Nat.add x (Nat.shiftLeft o 6))
def semFieldAddr (t : Nat) (e : Ent) (f : Nat) : Sem1 :=
  match ty t with
  | ⟨.st fs, n⟩ => match nthF f fs with
    | none => none
    | some (o, z) => match e with
      | .n (.ptr l mo nn) fl x => cond (Nat.ble (Nat.add o z) (lenK l) && Nat.blt 0 z)
          (some (cond nn none (some (notB (Nat.beq x 0))), .n (.ptr (takeK z (dropK o l)) mo true) (cond (Nat.beq o 0) fl false) (addN x o))) none
      | .lp i l o' => cond (Nat.ble (Nat.add o z) (lenK l) && Nat.blt 0 z) (some (none, .lp i (takeK z (dropK o l)) (Nat.add o' o))) none
      | _ => none
  | _ => none
/-- A number of elements: not below 0 where the kind has such. -/
def idxOf : Ent → Option Nat
  | .n (.one (.int k)) _ x => some x
  | _ => none
def semIndexAddr (t : Nat) (e ix : Ent) : Sem1 :=
  match ty t, idxOf ix with
  | ⟨.sli el, _⟩, some i => match e with
    | .n (.sli l) _ x =>
      cond (Nat.beq (ty el).size (lenK l) && Nat.blt 0 (lenK l))
        (some (some (Nat.blt i (sln x)), .n (.ptr l true true) false (Nat.add (slp x) (Nat.mul i (Nat.shiftLeft (lenK l) 6))))) none
    | _ => none
  | ⟨.arr len el, _⟩, some i => match e with
    | .n (.ptr L mo nn) _ x =>
      let z := (ty el).size
      cond (Nat.blt 0 z && Nat.beq (lenK L) (Nat.mul len z) && beqKs L (repK len (takeK z L)))
        (some (andC (cond nn none (some (notB (Nat.beq x 0)))) (some (Nat.blt i len)), .n (.ptr (takeK z L) mo true) false (Nat.add x (Nat.mul i (Nat.shiftLeft z 6))))) none
    | _ => none
  | _, _ => none
def strLen (x : Nat) : Nat := Nat.land x 65535
def strAt (x : Nat) : Nat := Nat.shiftRight x 16
/-- A string's bytes as a number, with a 1 behind them. -/
def strS (s x : Nat) : Nat :=
  Nat.add (Nat.land (Nat.shiftRight s (strAt x)) (Nat.sub (Nat.shiftLeft 1 (Nat.shiftLeft (strLen x) 3)) 1)) (Nat.shiftLeft 1 (Nat.shiftLeft (strLen x) 3))
def semIndex (t : Nat) (e ix : Ent) (c : Core) : Sem1 :=
  match ty t, idxOf ix with
  | ⟨.str, _⟩, some i => match e with
    | .n (.one .str) _ x => some (some (Nat.blt i (strLen x)), .n (.one (.int .u8)) false (Nat.land (Nat.shiftRight c.s (Nat.add (strAt x) (Nat.shiftLeft i 3))) 255))
    | _ => none
  | ⟨.arr len el, _⟩, some i => match e with
    | .n (.agg L) _ x =>
      let z := (ty el).size
      cond (Nat.blt 0 z && Nat.blt len 2097152 && Nat.beq (lenK L) (Nat.mul len z) && beqKs L (repK len (takeK z L)))
        (match entLay (ty el).desc.isRow (takeK z L) false (rd x (Nat.mul i (Nat.shiftLeft z 6)) z) with
        | some r => some (some (Nat.blt i len), r)
        | none => none) none
    | _ => none
  | _, _ => none
def optN (env : Env) : Option Operand → Option (Option Nat)
  | none => some none
  | some o => match evO env o with
    | some e => match idxOf e with
      | some n => some (some n)
      | none => none
    | none => none
/-- 0 ≤ l ≤ h ≤ n, told as shortly as may be. -/
def bnds (lo hi : Option Nat) (len cap : Nat) : Option Bool :=
  match lo, hi with
  | none, none => none
  | some l, none => some (Nat.ble l len)
  | none, some h => some (Nat.ble h cap)
  | some l, some h => some (cond (Nat.ble l h) (Nat.ble h cap) false)
def addOpt (p z : Nat) : Option Nat → Nat
  | none => p
  | some q => Nat.add p (Nat.mul q z)
def lenOpt (n : Nat) : Option Nat → Option Nat → Nat
  | none, none => n
  | some l, none => Nat.sub n l
  | none, some h => h
  | some l, some h => Nat.sub h l
def semSlice (t : Nat) (e : Ent) (lo hi mx : Option Nat) : Sem1 :=
  match ty t with
  | ⟨.str, _⟩ => match e, mx with
    | .n (.one .str) _ x, none =>
      some (bnds lo hi (strLen x) (strLen x), .n (.one .str) false
        (Nat.add (Nat.shiftLeft (addOpt (strAt x) 8 lo) 16) (lenOpt (strLen x) lo hi)))
    | _, _ => none
  | ⟨.sli el, _⟩ => match e with
    | .n (.sli l) _ x =>
      cond (Nat.beq (ty el).size (lenK l) && Nat.blt 0 (lenK l))
      (let h := hi.getD (sln x)
       let a := lo.getD 0
       let p := addOpt (slp x) (Nat.shiftLeft (lenK l) 6) lo
       match mx with
       | some m => cond hi.isSome (some (some (cond (Nat.ble a h) (cond (Nat.ble h m) (Nat.ble m (scp x)) false) false),
           .n (.sli l) false (cond (Nat.beq (slp x) 0) x (slmk p (Nat.sub h a) (Nat.sub m a) 1)))) none
       | none => some (some (cond (Nat.ble a h) (Nat.ble h (scp x)) false),
           .n (.sli l) false (cond (Nat.beq (slp x) 0) x (cond (Nat.beq (Nat.add (Nat.sub (scp x) a) (sex x)) 0) 9223372036854775808 (slmk p (Nat.sub h a) (Nat.sub (scp x) a) (sex x)))))) none
    | _ => none
  | ⟨.arr len el, _⟩ => match e, mx with
    | .n (.ptr L mo nn) _ x, none =>
      let z := (ty el).size
      let h := hi.getD len
      let a := lo.getD 0
      cond (Nat.blt 0 z && Nat.blt len 131072 && Nat.blt (Nat.mul len z) 2097152 && Nat.beq (lenK L) (Nat.mul len z) && beqKs L (repK len (takeK z L)) && !mo)
        (some (andC (cond nn none (some (notB (Nat.beq x 0)))) (some (cond (Nat.ble a h) (cond (Nat.ble h len) (Nat.blt x 134217728) false) false)),
          .n (.sli (takeK z L)) false (slmk (Nat.add x (Nat.mul a (Nat.shiftLeft z 6))) (Nat.sub h a) (Nat.sub len a) 1))) none
    | _, _ => none
  | _ => none
def semNil (e : Ent) : Sem1 :=
  match e with
  | .n (.ptr l mo nn) fl x => some (cond nn none (some (notB (Nat.beq x 0))), .n (.ptr l mo true) fl x)
  | .lp i l o => some (none, e)
  | .n (.one .fn) fl x => some (some (notB (Nat.beq x 0)), e)
  | _ => none
def semUn (op : UnOp) (e : Ent) : Sem1 :=
  match op, asB e with
  | .not, some x => some (none, .b (notB x))
  | _, _ => none
def convN (k k' : IntKind) (x : Nat) : Nat := cond (Nat.ble (limK k) (limK k')) x (Nat.mod x (limK k'))
def convOk : IntKind → Bool
  | .i8 | .i16 | .i32 => false
  | _ => true
def semConv (src dst : Nat) (e : Ent) : Sem1 :=
  cond (Nat.blt 0 (ty src).size) (match ty dst, e with
  | ⟨.int k', _⟩, .n (.one (.int k)) fl x =>
    cond (convOk k && convOk k') (some (none, .n (.one (.int k')) (cond (Nat.ble (limK k) (limK k')) fl false) (convN k k' x))) none
  | ⟨.int .u64, _⟩, .c 2 => some (none, .n (.one (.int .u64)) true 1000000)
  | ⟨.flo, _⟩, .n (.one (.int .u64)) _ x => some (some (Nat.beq x 1000000), .c 2)
  | _, _ => none) none
def nthE : Nat → List Ent → Option Ent
  | _, [] => none
  | 0, x :: _ => some x
  | n + 1, _ :: l => nthE n l
def semExtract (e : Ent) (i : Nat) : Sem1 :=
  match e with
  | .tup l => match nthE i l with
    | some r => some (none, r)
    | none => none
  | _ => none
def semField (t : Nat) (e : Ent) (f : Nat) : Sem1 :=
  match ty t with
  | ⟨.st fs, n⟩ => match nthF f fs, nthN f (fieldTys t), e with
    | some (o, z), some ft, .n (.agg l) _ x =>
      cond (Nat.beq n (lenK l) && Nat.ble (Nat.add o z) n && Nat.blt 0 z && Nat.beq (ty ft).size z)
        (match entLay (ty ft).desc.isRow (takeK z (dropK o l)) false (rd x (Nat.shiftLeft o 6) z) with
        | some r => some (none, r)
        | none => none) none
    | _, _, _ => none
  | _ => none
/-- Parts laid side by side. -/
def partsN (place : Nat → Option (Nat × Nat × Bool)) (l : List K) (env : Env) : List (Nat × Operand) → Nat → Nat → Option Nat
  | [], _, acc => some acc
  | (i, x) :: r, fm, acc =>
    match place i, evO env x with
    | some (o, z, agg), some e =>
      cond (Nat.beq (Nat.land fm (Nat.shiftLeft (Nat.sub (Nat.shiftLeft 1 z) 1) o)) 0 && Nat.ble (Nat.add o z) (lenK l) && Nat.blt 0 z)
        (match toLay (takeK z (dropK o l)) agg e with
        | some y => partsN place l env r (Nat.lor fm (Nat.shiftLeft (Nat.sub (Nat.shiftLeft 1 z) 1) o)) (cond (Nat.beq fm 0 && Nat.beq o 0) y (cat acc o y))
        | none => none) none
    | _, _ => none
def placeSt (t : Nat) (fs : List (Nat × Nat)) (i : Nat) : Option (Nat × Nat × Bool) :=
  match nthF i fs, nthN i (fieldTys t) with
  | some (o, z), some ft => cond (Nat.beq (ty ft).size z) (some (o, z, (ty ft).desc.isRow)) none
  | _, _ => none
def placeArr (len el : Nat) (i : Nat) : Option (Nat × Nat × Bool) :=
  cond (Nat.blt i len) (some (Nat.mul i (ty el).size, (ty el).size, (ty el).desc.isRow)) none
def semBuild (t : Nat) (ps : List (Nat × Operand)) (env : Env) : Sem1 :=
  cond (zeroOk t)
  (match ty t with
  | ⟨.st fs, n⟩ => cond (Nat.beq n (lenK (lay t)))
    (match partsN (placeSt t fs) (lay t) env ps 0 0 with
    | some x => some (none, .n (.agg (lay t)) false x)
    | none => none) none
  | ⟨.arr len el, n⟩ => cond (Nat.beq n (lenK (lay t)) && Nat.blt 0 (ty el).size)
    (match partsN (placeArr len el) (lay t) env ps 0 0 with
    | some x => some (none, .n (.agg (lay t)) false x)
    | none => none) none
  | _ => none) none

def B63 : Nat := 9223372036854775808
def intLt (k : IntKind) (x y : Nat) : Bool :=
  match k with
  | .i64 => Nat.blt (Nat.xor x 9223372036854775808) (Nat.xor y 9223372036854775808)
  | _ => Nat.blt x y
def semInt (op : BinOp) (k : IntKind) (x y : Nat) : Sem1 :=
  match op with
  | .eql => some (none, .b (Nat.beq x y))
  | .neq => some (none, .b (notB (Nat.beq x y)))
  | .lss => some (none, .b (intLt k x y))
  | .gtr => some (none, .b (intLt k y x))
  | .leq => some (none, .b (notB (intLt k y x)))
  | .geq => some (none, .b (notB (intLt k x y)))
  | .add => cond (convOk k) (some (none, .n (.one (.int k)) false (Nat.mod (Nat.add x y) (limK k)))) none
  | .sub => cond (convOk k) (some (none, .n (.one (.int k)) false (Nat.mod (Nat.sub (Nat.add x (limK k)) y) (limK k)))) none
  | .mul => cond (convOk k) (some (none, .n (.one (.int k)) false (Nat.mod (Nat.mul x y) (limK k)))) none
  | .quo => match k with
    | .u64 => some (some (Nat.blt 0 y), .n (.one (.int .u64)) false (Nat.div x y))
    | _ => none
  | .rem => match k with
    | .u64 | .u8 => some (some (Nat.blt 0 y), .n (.one (.int k)) false (Nat.mod x y))
    | .i64 => some (some (cond (Nat.blt x 9223372036854775808) (cond (Nat.blt y 9223372036854775808) (Nat.blt 0 y) false) false), .n (.one (.int .i64)) false (Nat.mod x y))
    | _ => none
  | .or => match k with
    | .u64 => some (none, .n (.one (.int .u64)) false (Nat.lor x y))
    | _ => none
  | _ => none
def semShift (op : BinOp) (k : IntKind) (x y : Nat) : Sem1 :=
  match op, k with
  | .shl, .u64 => some (some (Nat.blt y 64), .n (.one (.int .u64)) false (Nat.mod (Nat.shiftLeft x y) 18446744073709551616))
  | .shr, .u64 => some (some (Nat.blt y 64), .n (.one (.int .u64)) false (Nat.shiftRight x y))
  | _, _ => none
def eqEnt (op : BinOp) (b : Bool) : Sem1 :=
  match op with
  | .eql => some (none, .b b)
  | .neq => some (none, .b (notB b))
  | _ => none
def isShift : BinOp → Bool
  | .shl | .shr => true
  | _ => false
def semBin (op : BinOp) (t : Nat) (ex ey : Ent) (c : Core) : Sem1 :=
  match ex, ey with
  | .n (.one (.int k)) _ x, .n (.one (.int k')) _ y =>
    cond (isShift op) (semShift op k x y) (cond (Nat.beq (kidx k) (kidx k')) (semInt op k x y) none)
  | .n (.one .opq) _ _, .n (.one (.int .u64)) _ _ => match op with
    | .add => some (none, .n (.one .opq) true 0)
    | _ => none
  | .n (.one .str) _ x, .n (.one .str) _ y => eqEnt op (Nat.beq (strS c.s x) (strS c.s y))
  | .n (.ptr _ _ _) _ x, .z 0 => match (ty t).desc with
    | .ptr _ => eqEnt op (Nat.beq x 0)
    | _ => none
  | .lp _ _ _, .z 0 => match (ty t).desc with
    | .ptr _ => eqEnt op false
    | _ => none
  | .n (.sli _) _ x, .z 1 => match (ty t).desc with
    | .sli _ => eqEnt op (Nat.beq x 0)
    | _ => none
  | .n (.one .fn) _ x, .z 2 => match (ty t).desc with
    | .fn => eqEnt op (Nat.beq x 0)
    | _ => none
  | .n (.agg l) _ x, .n (.agg l') _ y => match eqTy t with
    | some m => cond (beqKs l m && beqKs l' m) (eqEnt op (Nat.beq x y)) none
    | none => none
  | .c i, .c j => match cBin op i j with
    | some r => some (none, r)
    | none => none
  | ex, ey => match (ty t).desc, asB ex, asB ey with
    | .bool, some x, some y => eqEnt op (cond x y (notB y))
    | _, _, _ => none
def semPick (cond_ : Bool) (a b : Option Ent) : Sem1 :=
  match a, b with
  | some (.g _ _ ga ea), some eb => match asB ea, asB eb with
    | some x, some y => some (some (cond cond_ ga true), .b (cond cond_ x y))
    | _, _ => none
  | some ea, some (.g _ _ gb eb) => match asB ea, asB eb with
    | some x, some y => some (some (cond cond_ true gb), .b (cond cond_ x y))
    | _, _ => none
  | some ea, some eb => match asB ea, asB eb with
    | some x, some y => some (none, .b (cond cond_ x y))
    | _, _ => none
  | _, _ => none
def fnN (env : Env) : List Operand → Nat → Nat → Option Nat
  | [], _, acc => some acc
  | x :: r, i, acc => match evO env x with
    | some (.n (.ptr l false _) _ p) => fnN env r (Nat.succ i) (Nat.add acc (Nat.shiftLeft (Nat.shiftRight p 6) (Nat.add 10 (Nat.mul 22 i))))
    | _ => none
def fnChk (env : Env) : List Operand → List (List K) → Option (Option Bool)
  | [], [] => some none
  | x :: r, l :: ls => match evO env x with
    | some (.n (.ptr l' false nn) _ p) => cond (beqKs l l') (match fnChk env r ls with
      | some b => some (andC (some (cond (Nat.beq p 0) false (Nat.blt p 268435456))) b)
      | none => none) none
    | _ => none
  | _, _ => none
def semFunc (fn : Fn) (first caps : List Operand) (env : Env) : Sem1 :=
  match fn, first with
  | .func g, [] => cond (Nat.blt g 1022 && Nat.ble caps.length 2) (match fnChk env caps (capT g), fnN env caps 0 (Nat.succ g) with
    | some b, some x => some (b, .n (.one .fn) false x)
    | _, _ => none) none
  | _, _ => none
def minmax (mx : Bool) (k : IntKind) (x y : Nat) : Nat := cond (intLt k x y) (cond mx y x) (cond mx x y)
def foldMM (mx : Bool) (k : IntKind) (env : Env) : List Operand → Nat → Option Nat
  | [], acc => some acc
  | x :: r, acc => match evO env x with
    | some (.n (.one (.int k')) _ y) => cond (Nat.beq (kidx k) (kidx k')) (foldMM mx k env r (minmax mx k acc y)) none
    | _ => none
def semMM (mx : Bool) (env : Env) : List Operand → Sem1
  | x :: r => match evO env x with
    | some (.n (.one (.int k)) _ y) => match foldMM mx k env r y with
      | some z => some (none, .n (.one (.int k)) false z)
      | none => none
    | _ => none
  | [] => none
def semBuiltin (b : Builtin) (tys : List Nat) (args : List Operand) (env : Env) : Sem1 :=
  match b with
  | .len => match tys, args with
    | [t], [x] => match ty t, evO env x with
      | ⟨.str, _⟩, some (.n (.one .str) _ h) => some (none, .n (.one (.int .i64)) false (strLen h))
      | ⟨.sli _, _⟩, some (.n (.sli _) _ h) => some (none, .n (.one (.int .i64)) false (sln h))
      | ⟨.sli _, _⟩, some (.z 1) => some (none, .n (.one (.int .i64)) true 0)
      | ⟨.sli _, _⟩, some (.ls _ n) => cond (Nat.blt n 131072) (some (none, .n (.one (.int .i64)) true n)) none
      | _, _ => none
    | _, _ => none
  | .max => semMM true env args
  | .min => semMM false env args
  | .real => match args with
    | [x] => match evO env x with
      | some (.c 0) => some (none, .c 1)
      | some (.c 3) => some (none, .c 2)
      | _ => none
    | _ => none
  | .imag => match args with
    | [x] => match evO env x with
      | some (.c 0) => some (none, .c 1)
      | some (.c 3) => some (none, .c 2)
      | _ => none
    | _ => none
  | .complex => match args with
    | [x, y] => match evO env x, evO env y with
      | some (.c 1), some (.c 1) => some (none, .c 0)
      | some (.c 2), some (.c 2) => some (none, .c 3)
      | _, _ => none
    | _ => none
  | _ => none
/-- The operations that only reckon or look. -/
def sem (o : Oper) (env : Env) (lo : Lo) (c : Core) : Sem1 :=
  match o.op with
  | .move x => match evO env x with | some e => some (none, e) | none => none
  | .assign x => match evO env x with | some e => some (none, e) | none => none
  | .pick x a b => match evO env x with
    | some e => match asB e with
      | some q => semPick q (rawO env a) (rawO env b)
      | none => none
    | none => none
  | .load t a => match evO env a with | some e => semLoad t e lo c | none => none
  | .nilCheck x => match evO env x with | some e => semNil e | none => none
  | .binOp op t x y _ => match evO env x, evO env y with | some a, some b => semBin op t a b c | _, _ => none
  | .unOp op _ x => match evO env x with | some e => semUn op e | none => none
  | .convert s d x => match evO env x with | some e => semConv s d e | none => none
  | .fieldAddr t x f => match evO env x with | some e => semFieldAddr t e f | none => none
  | .field t x f => match evO env x with | some e => semField t e f | none => none
  | .indexAddr t x i => match evO env x, evO env i with | some a, some b => semIndexAddr t a b | _, _ => none
  | .index t x i => match evO env x, evO env i with | some a, some b => semIndex t a b c | _, _ => none
  | .slice t x a b m => match evO env x, optN env a, optN env b, optN env m with
    | some e, some l, some h, some q => semSlice t e l h q
    | _, _, _, _ => none
  | .extract x i => match evO env x with | some e => semExtract e i | none => none
  | .build t ps => semBuild t ps.toList env
  | .makeFunc fn f cs => semFunc fn f.toList cs.toList env
  | .call cl => match cl.callee with
    | .builtin b => semBuiltin b cl.argTypes.toList cl.args.toList env
    | _ => none
  | _ => none
end Go.Proofs.YtaekfgbfpfecdaaGreat.VM

/- The machine: what it does with operations that write, with calls, with the model's code; no conditions. -/
namespace Go.Proofs.YtaekfgbfpfecdaaGreat.VM
open Go
set_option linter.unusedVariables false

def nthO : Nat → List Oper → Option Oper
  | _, [] => none
  | 0, o :: _ => some o
  | n + 1, _ :: l => nthO n l
def gOf (want c : Bool) : Bool := cond want c (notB c)
/-- Is what a guard asks of a slot so? A slot that hangs on a guard itself is nothing where that does not hold. -/
def gval (want : Bool) (e : Ent) : Option Bool :=
  match e with
  | .g _ _ gb e => match asB e with
    | some c => some (cond gb (gOf want c) false)
    | none => none
  | e => match asB e with
    | some c => some (gOf want c)
    | none => none
/-- What an operation hangs on: a slot, what it is to be, and whether it is. -/
abbrev Gd := Option (Nat × Bool × Bool)
def guardOf (all : List Oper) (env : Env) (o : Oper) : Option Gd :=
  match o.guard with
  | none => some none
  | some (j, want) => match nthO j all with
    | some oj => match oj.dst with
      | some s => match getA env s with
        | some e => match gval want e with
          | some gb => some (some (s, want, gb))
          | none => none
        | none => none
      | none => none
    | none => none
def gchk (gd : Gd) (chk : Option Bool) : Option Bool :=
  match gd, chk with
  | none, c => c
  | some _, none => none
  | some (_, _, gb), some c => some (cond gb c true)
def gent (gd : Gd) (e : Ent) : Ent :=
  match gd with
  | none => e
  | some (s, w, gb) => .g s w gb e
def genv (gd : Gd) (env : Env) : Env :=
  match gd with
  | none => env
  | some (s, w, _) => unlock s w env
def chkK (chk : Option Bool) (k : Bool) : Bool :=
  match chk with
  | none => k
  | some c => cond c k false
def notSlot (gd : Gd) (d : Nat) : Bool :=
  match gd with
  | none => true
  | some (s, _, _) => notB (Nat.beq d s)
def notGE (e : Ent) : Bool :=
  match e with
  | .g _ _ _ _ => false
  | _ => true
/-- A slot is set. -/
def setK (nt : Nat) (forced : List Nat) (dst : Option Nat) (gd : Gd) (e : Ent) (env : Env) (k : Env → Bool) : Bool :=
  match dst with
  | none => k env
  | some d => cond (noG d env && Nat.blt d nt && notSlot gd d && notGE e)
    (match memN d forced, e with
    | true, .n sh false x => force x (fun v => k ((d, some (gent gd (.n sh true v))) :: env))
    | _, _ => k ((d, some (gent gd e)) :: env)) false

def isF (e : Ent) : Bool :=
  match e with
  | .n _ fl _ => fl
  | _ => false
/-- An entry as a number of a shape, reckoned out or not. -/
def toNs (env : Env) : List Sh → List Operand → Option (List (Bool × Nat))
  | [], [] => some []
  | s :: ss, x :: xs => match evO env x with
    | some e => match toN s e with
      | some n => match toNs env ss xs with
        | some r => some (n :: r)
        | none => none
      | none => none
    | none => none
  | _, _ => none
def entShs : List Sh → List Nat → List Ent
  | s :: ss, x :: xs => entSh s x :: entShs ss xs
  | _, _ => []
def resEnt (rs : List Sh) (xs : List Nat) : Ent :=
  match rs, xs with
  | [s], [x] => entSh s x
  | rs, xs => .tup (entShs rs xs)
def findFn (g : Nat) : List (Nat × FunE) → Option FunE
  | [] => none
  | (a, F) :: l => cond (Nat.beq a g) (some F) (findFn g l)
def capNs (x : Nat) : List (List K) → Nat → List (Sh × Nat)
  | [], _ => []
  | l :: ls, i => (.ptr l false true, fcap x i) :: capNs x ls (Nat.succ i)
def capFit : List Sh → List (Sh × Nat) → Option (List (Bool × Nat))
  | [], [] => some []
  | s :: ss, (s', x) :: r => cond (fitSh s' s) (match capFit ss r with
    | some q => some ((false, x) :: q)
    | none => none) none
  | _, _ => none
def dropS : Nat → List Sh → List Sh
  | 0, l => l
  | n + 1, _ :: l => dropS n l
  | _ + 1, [] => []
def takeS : Nat → List Sh → List Sh
  | 0, _ => []
  | n + 1, a :: l => a :: takeS n l
  | _ + 1, [] => []
def lenO : List Operand → Nat
  | [] => 0
  | _ :: l => Nat.succ (lenO l)
def lenS : List Sh → Nat
  | [] => 0
  | _ :: l => Nat.succ (lenS l)
def appL : List (Bool × Nat) → List (Bool × Nat) → List (Bool × Nat)
  | [], m => m
  | a :: l, m => a :: appL l m
/-- A call of a function that is known. -/
def callF (fns : List (Nat × FunE)) (g : Nat) (args : List Operand) (x : Nat) (env : Env) (c : Core) (k : List Nat → Core → Bool) : Bool :=
  match findFn g fns with
  | none => false
  | some F => match toNs env (takeS (lenO args) F.ps) args, capFit (dropS (lenO args) F.ps) (capNs x (capT g) 0) with
    | some l, some m => forceAll (appL l m) (fun xs => F.f xs c k)
    | _, _ => false
/-- A call through a slot: one of these functions. -/
def callD (fns : List (Nat × FunE)) (args : List Operand) (x : Nat) (env : Env) (c : Core) (k : List Nat → Core → Bool) : List Nat → Bool
  | [] => false
  | g :: gs => cond (Nat.beq (Nat.land x 1023) (Nat.succ g)) (callF fns g args x env c k) (callD fns args x env c k gs)
def zerosS : List Sh → List Nat
  | [] => []
  | _ :: l => 0 :: zerosS l
def lookC (d : Nat) : List (Nat × List Nat) → List Nat
  | [] => []
  | (a, l) :: r => cond (Nat.beq a d) l (lookC d r)
def dstN : Option Nat → Nat
  | none => 1000000
  | some d => d
/-- The results' shapes, where all the candidates have the same. -/
def candRs (fns : List (Nat × FunE)) : List Nat → Option (List Sh)
  | [] => none
  | g :: _ => match findFn g fns with
    | some F => some F.rs
    | none => none
def beqShs : List Sh → List Sh → Bool
  | [], [] => true
  | a :: l, b :: m => fitSh a b && beqShs l m
  | _, _ => false
def allRs (fns : List (Nat × FunE)) (rs : List Sh) : List Nat → Bool
  | [] => true
  | g :: gs => match findFn g fns with
    | some F => beqShs F.rs rs && allRs fns rs gs
    | none => false
/-- Whom an operation calls: one function; or one of several, through a number. -/
inductive Tgt where
  | one (g : Nat)
  | any (x : Nat) (gs : List Nat)
def tgtOf (I : FI) (dst : Option Nat) (env : Env) (f : Operand) : Option Tgt :=
  match f with
  | .func g => match capT g with
    | [] => some (.one g)
    | _ => none
  | f => match evO env f with
    | some (.n (.one .fn) _ x) => some (.any x (lookC (dstN dst) I.cands))
    | _ => none
def tgtRs (I : FI) : Tgt → Option (List Sh)
  | .one g => candRs I.fns [g]
  | .any _ gs => candRs I.fns gs
def callT (I : FI) (t : Tgt) (rs : List Sh) (args : List Operand) (env : Env) (c : Core) (k : List Nat → Core → Bool) : Bool :=
  match t with
  | .one g => callF I.fns g args 0 env c k
  | .any x gs => cond (allRs I.fns rs gs) (callD I.fns args x env c k gs) false
def manyC : Tgt → Bool
  | .any _ (_ :: _ :: _) => true
  | _ => false
def denCall (I : FI) (dst : Option Nat) (gd : Gd) (f : Operand) (args : List Operand) (env : Env) (lo : Lo) (c : Core) (k : Env → Lo → Core → Bool) : Bool :=
  match tgtOf I dst (genv gd env) f with
  | none => false
  | some t => match tgtRs I t with
    | none => false
    | some rs => match gd with
      | none => match manyC t with
        | false => callT I t rs args env c (fun xs c' => setK I.nt I.forced dst none (resEnt rs xs) env (fun env => k env lo c'))
        | true => join (NF.of (lenS rs) (fun xs c' => setK I.nt I.forced dst none (resEnt rs xs) env (fun env => k env lo c')))
            (fun J => callT I t rs args env c (fun xs c' => NF.ap (lenS rs) J xs c'))
      | some (s, w, gb) => join (NF.of (lenS rs) (fun xs c' => setK I.nt I.forced dst gd (resEnt rs xs) env (fun env => k env lo c')))
          (fun J => cond gb (callT I t rs args (unlock s w env) c (fun xs c' => NF.ap (lenS rs) J xs c')) (NF.ap (lenS rs) J (zerosS rs) c))

/-! ### Memory written -/
def wrK (m p n y : Nat) (k : Nat → Bool) : Bool :=
  force (Nat.xor (rd m p n) y) (fun d => force (Nat.xor m (Nat.xor (Nat.shiftLeft d p) (Nat.mod (Nat.add d p) 2305843009213693951))) k)
/-- Memory with a new row at its end. -/
def apv (m t y : Nat) : Nat := Nat.xor m (Nat.xor (Nat.shiftLeft y (Nat.shiftLeft t 6)) (Nat.mod (Nat.add y t) 2305843009213693951))
/-- Lanes of a register's row laid anew. -/
def putN (y o n z : Nat) : Nat := Nat.xor y (Nat.shiftLeft (Nat.xor (rd y (Nat.shiftLeft o 6) n) z) (Nat.shiftLeft o 6))
def partSet (L : List K) (y o n z : Nat) : Nat := cond (Nat.beq o 0 && Nat.beq n (lenK L)) z (putN y o n z)
def denStore (t : Nat) (ep ev : Ent) (lo : Lo) (c : Core) (k : Lo → Core → Bool) : Bool :=
  match ty t with
  | ⟨d, n⟩ => match ep with
    | .n (.ptr l mo nn) _ x =>
      cond (Nat.beq n (lenK l) && Nat.blt 0 n)
        (match toLay l d.isRow ev with
        | some y => chkK (ptrChk c.d mo nn x n) (wrK c.m x n y (fun m => k lo ⟨m, c.t, c.s, c.d⟩))
        | none => false) false
    | .lp i l o =>
      cond (Nat.beq n (lenK l) && Nat.blt 0 n)
        (match locOf lo i with
        | some (L, y) => cond (beqKs l (takeK n (dropK o L)))
          (match toLay l d.isRow ev with
          | some z => force (partSet L y o n z) (fun v => k ((i, some (.blk L v)) :: lo) c)
          | none => false) false
        | none => false) false
    | _ => false
def flatE : List Ent → Bool
  | [] => true
  | .n _ _ _ :: l => flatE l
  | .b _ :: l => flatE l
  | .c _ :: l => flatE l
  | .z _ :: l => flatE l
  | _ => false
def noL (i : Nat) : Env → Bool
  | [] => true
  | (_, some (.lp j _ _)) :: l => cond (Nat.beq j i) false (noL i l)
  | (_, some (.ls j _)) :: l => cond (Nat.beq j i) false (noL i l)
  | (_, some (.it j)) :: l => cond (Nat.beq j i) false (noL i l)
  | (_, some (.g _ _ _ _)) :: l => false
  | (_, some (.tup t)) :: l => cond (flatE t) (noL i l) false
  | _ :: l => noL i l
def noLo (i : Nat) (lo : Lo) : Bool :=
  match getA lo i with
  | none => true
  | some _ => false
/-- A variable of the frame's own. -/
def newLoc (nt : Nat) (d : Nat) (e : Ent) (b : LoE) (env : Env) (lo : Lo) (k : Env → Lo → Bool) : Bool :=
  cond (noLo d lo && noL d env && noG d env && Nat.blt d nt) (k ((d, some e) :: env) ((d, some b) :: lo)) false
/-- A new row in memory, its lanes y; the new top. -/
def nRow (n y : Nat) (zero : Bool) (c : Core) (k : Core → Bool) : Bool :=
  force (Nat.add c.t n) (fun t => cond (Nat.blt t 4194304)
    (match zero with
    | true => k ⟨c.m, t, c.s, c.d⟩
    | false => force (apv c.m c.t y) (fun m => k ⟨m, t, c.s, c.d⟩)) false)
def denAlloc (I : FI) (dst : Option Nat) (t : Nat) (env : Env) (lo : Lo) (c : Core) (k : Env → Lo → Core → Bool) : Bool :=
  match dst with
  | none => false
  | some d => cond (zeroOk t && Nat.blt 0 (lenK (lay t)))
    (match memN d I.locs with
    | true => newLoc I.nt d (.lp d (lay t) 0) (.blk (lay t) 0) env lo (fun env lo => k env lo c)
    | false => force (Nat.shiftLeft c.t 6) (fun p => nRow (lenK (lay t)) 0 true c (fun c => setK I.nt I.forced dst none (.n (.ptr (lay t) false true) true p) env (fun env => k env lo c)))) false
def denBox (I : FI) (dst : Option Nat) (t : Nat) (ev : Ent) (env : Env) (lo : Lo) (c : Core) (k : Env → Lo → Core → Bool) : Bool :=
  match dst with
  | none => false
  | some d => cond (Nat.beq (ty t).size (lenK (lay t)) && Nat.blt 0 (lenK (lay t)))
    (match toLay (lay t) (ty t).desc.isRow ev with
    | none => false
    | some y => match memN d I.locs with
      | true => force y (fun y => newLoc I.nt d (.lp d (lay t) 0) (.blk (lay t) y) env lo (fun env lo => k env lo c))
      | false => force (Nat.shiftLeft c.t 6) (fun p => nRow (lenK (lay t)) y false c (fun c => setK I.nt I.forced dst none (.n (.ptr (lay t) false true) true p) env (fun env => k env lo c)))) false
def denBuildS (I : FI) (dst : Option Nat) (t len : Nat) (ps : List (Nat × Operand)) (env : Env) (lo : Lo) (c : Core) (k : Env → Lo → Core → Bool) : Bool :=
  match dst, ty t with
  | some d, ⟨.sli el, _⟩ => cond (zeroOk el && Nat.blt 0 (lenK (lay el)) && Nat.beq (ty el).size (lenK (lay el)) && Nat.blt 0 len && Nat.blt (Nat.mul len (lenK (lay el))) 131072)
    (match partsN (placeArr len el) (repK len (lay el)) env ps 0 0 with
    | none => false
    | some y => match memN d I.locs with
      | true => force y (fun y => newLoc I.nt d (.ls d len) (.blk (repK len (lay el)) y) env lo (fun env lo => k env lo c))
      | false => force (Nat.shiftLeft c.t 6) (fun p => nRow (Nat.mul len (lenK (lay el))) y false c (fun c => setK I.nt I.forced dst none (.n (.sli (lay el)) false (slmk p len len 1)) env (fun env => k env lo c)))) false
  | _, _ => false
/-- The top of the machine's strings. -/
def lg (s : Nat) : Nat := Nat.land s 18446744073709551615
theorem lg_eq (s : Nat) : lg s = sTop s := Nat.and_two_pow_sub_one_eq_mod s 64
/-- A string's bytes as a number. -/
def strN (s x : Nat) : Nat := Nat.land (Nat.shiftRight s (strAt x)) (Nat.sub (Nat.shiftLeft 1 (Nat.shiftLeft (strLen x) 3)) 1)
def catS (s x y : Nat) : Nat := Nat.add s (Nat.add (Nat.shiftLeft (Nat.add (strN s x) (Nat.shiftLeft (strN s y) (Nat.shiftLeft (strLen x) 3))) (lg s)) (Nat.shiftLeft (Nat.add (strLen x) (strLen y)) 3))
def denCat (I : FI) (dst : Option Nat) (x y : Nat) (env : Env) (lo : Lo) (c : Core) (k : Env → Lo → Core → Bool) : Bool :=
  force (lg c.s) (fun l => force (Nat.add (strLen x) (strLen y)) (fun n =>
    cond (cond (Nat.blt n 65536) (Nat.blt l 8796093022208) false)
      (force (catS c.s x y) (fun s => setK I.nt I.forced dst none (.n (.one .str) false (Nat.add (Nat.shiftLeft l 16) n)) env (fun env => k env lo ⟨c.m, c.t, s, c.d⟩))) false))
/-- The lanes of what is appended. -/
def srcOf (el : Nat) (e : Ent) (lo : Lo) (c : Core) : Option (Option Bool × Nat × Nat × Bool) :=
  match e with
  | .z 1 => some (none, 0, 0, true)
  | .ls i n => match locOf lo i with
    | some (L, y) => cond (beqKs L (repK n (lay el)) && Nat.blt n 131072) (some (none, n, y, true)) none
    | none => none
  | .n (.sli l) _ x => cond (beqKs l (lay el)) (some (some (Nat.beq (deadBits c.d (slp x) (Nat.mul (sln x) (lenK l))) 0), sln x, rd c.m (slp x) (Nat.mul (sln x) (lenK l)), false)) none
  | _ => none
/-- append. -/
def appendK (z x n y : Nat) (c : Core) (k : Nat → Core → Bool) : Bool :=
  cond (Nat.beq n 0) (k x c)
  (cond (Nat.beq x 0)
    (force (Nat.shiftLeft c.t 6) (fun p => nRow (Nat.mul n z) y false c (fun c => k (slmk p n n 0) c)))
    (cond (Nat.beq (slp x) 0) false
      (cond (Nat.beq (deadBits c.d (slp x) (Nat.mul (scp x) z)) 0)
        (force (sln x) (fun len => force (Nat.add len n) (fun need => cond (Nat.ble need (scp x))
          (wrK c.m (Nat.add (slp x) (Nat.mul len (Nat.shiftLeft z 6))) (Nat.mul n z) y (fun m => k (slmk (slp x) need (scp x) (sex x)) ⟨m, c.t, c.s, c.d⟩))
          (cond (Nat.blt need 131072)
            (force (Nat.shiftLeft c.t 6) (fun p => nRow (Nat.mul need z) (Nat.xor (rd c.m (slp x) (Nat.mul len z)) (Nat.shiftLeft y (Nat.shiftLeft (Nat.mul len z) 6))) false c (fun c' =>
              cond (Nat.beq (sex x) 0)
                (force (Nat.lor c.d (Nat.shiftLeft (Nat.sub (Nat.shiftLeft 1 (Nat.mul (scp x) z)) 1) (Nat.shiftRight (slp x) 6))) (fun d => k (slmk p need need 0) ⟨c'.m, c'.t, c'.s, d⟩))
                (k (slmk p need need 0) c')))) false)))) false)))
def denAppend (I : FI) (dst : Option Nat) (ts : List Nat) (s x : Operand) (env : Env) (lo : Lo) (c : Core) (k : Env → Lo → Core → Bool) : Bool :=
  match ts with
  | [t, t'] => cond (Nat.beq t t') (match ty t with
    | ⟨.sli el, _⟩ => cond (zeroOk el && Nat.blt 0 (lenK (lay el)) && Nat.beq (ty el).size (lenK (lay el)) && Nat.blt (bytesT el) 1048576)
      (match evO env s, evO env x with
      | some es, some ex => match toN (.sli (lay el)) es, srcOf el ex lo c with
        | some (_, xs), some (chk, n, y, _) => chkK chk (join (NF.of 1 (fun l c => setK I.nt I.forced dst none (resEnt [.sli (lay el)] l) env (fun env => k env lo c)))
            (fun J => force xs (fun xs => force n (fun n => appendK (lenK (lay el)) xs n y c (fun r c => force r (fun r => NF.ap 1 J [r] c))))))
        | _, _ => false
      | _, _ => false) false
    | _ => false) false
  | _ => false
def denClear (I : FI) (dst : Option Nat) (ts : List Nat) (s : Operand) (env : Env) (lo : Lo) (c : Core) (k : Env → Lo → Core → Bool) : Bool :=
  match ts with
  | [t] => match ty t with
    | ⟨.sli el, _⟩ => cond (zeroOk el && Nat.blt 0 (lenK (lay el)) && Nat.beq (ty el).size (lenK (lay el)))
      (match evO env s with
      | some (.n (.sli l) _ x) => cond (beqKs l (lay el))
        (join (NF.of 0 (fun _ c => setK I.nt I.forced dst none (.tup []) env (fun env => k env lo c)))
          (fun J => cond (Nat.beq (sln x) 0) (NF.ap 0 J [] c)
            (cond (Nat.beq (deadBits c.d (slp x) (Nat.mul (sln x) (lenK l))) 0) (wrK c.m (slp x) (Nat.mul (sln x) (lenK l)) 0 (fun m => NF.ap 0 J [] ⟨m, c.t, c.s, c.d⟩)) false))) false
      | _ => false) false
    | _ => false
  | _ => false
/-- A slice that has no elements, and is not nil. -/
def denEmpty (I : FI) (dst : Option Nat) (t : Nat) (ps : List (Nat × Operand)) (env : Env) (lo : Lo) (c : Core) (k : Env → Lo → Core → Bool) : Bool :=
  match dst, ty t, ps with
  | some d, ⟨.sli el, _⟩, [] => cond (zeroOk el && Nat.blt 0 (lenK (lay el)) && Nat.beq (ty el).size (lenK (lay el)))
    (setK I.nt I.forced dst none (.n (.sli (lay el)) false (slmk (Nat.shiftLeft c.t 6) 0 0 1)) env (fun env => k env lo c)) false
  | _, _, _ => false
/-- The bytes of a row of lanes, as a number. -/
def packB (m p n : Nat) : Nat := @Nat.rec (fun _ => Nat) 0 (fun i ih => Nat.add ih (Nat.shiftLeft (Nat.land (Nat.shiftRight m (Nat.add p (Nat.shiftLeft i 6))) 255) (Nat.shiftLeft i 3))) n
def bytS (s v n : Nat) : Nat := Nat.add s (Nat.add (Nat.shiftLeft v (lg s)) (Nat.shiftLeft n 3))
/-- Bytes as a string. -/
def denStr (I : FI) (dst : Option Nat) (t t' : Nat) (l : List K) (x : Nat) (env : Env) (lo : Lo) (c : Core) (k : Env → Lo → Core → Bool) : Bool :=
  match ty t, ty t' with
  | ⟨.sli el, _⟩, ⟨.str, _⟩ => match ty el with
    | ⟨.int .u8, _⟩ => cond (beqKs l (lay el) && beqKs l [.int .u8])
      (force (lg c.s) (fun L => force (sln x) (fun n =>
        cond (cond (Nat.blt n 65536) (cond (Nat.blt L 8796093022208) (Nat.beq (deadBits c.d (slp x) (Nat.mul (sln x) (lenK l))) 0) false) false)
          (force (packB c.m (slp x) n) (fun v => force (bytS c.s v n) (fun s => setK I.nt I.forced dst none (.n (.one .str) false (Nat.add (Nat.shiftLeft L 16) n)) env (fun env => k env lo ⟨c.m, c.t, s, c.d⟩)))) false))) false
    | _ => false
  | _, _ => false
def denRange (I : FI) (dst : Option Nat) (t : Nat) (e : Ent) (env : Env) (lo : Lo) (c : Core) (k : Env → Lo → Core → Bool) : Bool :=
  match dst, ty t, e with
  | some d, ⟨.str, _⟩, .n (.one .str) _ h => newLoc I.nt d (.it d) (.itr h 0) env lo (fun env lo => k env lo c)
  | _, _, _ => false
def denNext (I : FI) (dst : Option Nat) (e : Ent) (env : Env) (lo : Lo) (c : Core) (k : Env → Lo → Core → Bool) : Bool :=
  match e with
  | .it i => match getA lo i with
    | some (.itr h p) => cond (Nat.blt p (strLen h))
        (force (Nat.land (Nat.shiftRight c.s (Nat.add (strAt h) (Nat.shiftLeft p 3))) 255) (fun b =>
          cond (Nat.blt b 128)
            (setK I.nt I.forced dst none (.tup [.b true, .n (.one (.int .i64)) true p, .n (.one (.int .i32)) true b]) env (fun env => force (Nat.succ p) (fun p => k env ((i, some (.itr h p)) :: lo) c))) false))
        (setK I.nt I.forced dst none (.tup [.b false]) env (fun env => k env lo c))
    | _ => false
  | _ => false

/-- One operation. -/
def denOp (I : FI) (o : Oper) (gd : Gd) (env : Env) (lo : Lo) (c : Core) (k : Env → Lo → Core → Bool) : Bool :=
  match o.op with
  | .call cl => match cl.callee with
    | .value f => denCall I o.dst gd f cl.args.toList env lo c k
    | .builtin b => match b, cl.args.toList, gd with
      | .append, [s, x], none => denAppend I o.dst cl.argTypes.toList s x env lo c k
      | .clear, [s], none => denClear I o.dst cl.argTypes.toList s env lo c k
      | .append, _, _ => false
      | .clear, _, _ => false
      | _, _, _ => match sem o (genv gd env) lo c with
        | some (chk, e) => chkK (gchk gd chk) (setK I.nt I.forced o.dst gd e env (fun env => k env lo c))
        | none => false
    | .invoke _ _ => false
  | .store t p v => match gd, o.dst, evO env p, evO env v with
    | none, none, some ep, some ev => denStore t ep ev lo c (fun lo c => k env lo c)
    | _, _, _, _ => false
  | .alloc t => match gd with
    | none => denAlloc I o.dst t env lo c k
    | some _ => false
  | .box t v => match gd, evO env v with
    | none, some ev => denBox I o.dst t ev env lo c k
    | _, _ => false
  | .buildSlice t len ps => match gd with
    | none => cond (Nat.beq len 0) (denEmpty I o.dst t ps.toList env lo c k) (denBuildS I o.dst t len ps.toList env lo c k)
    | some _ => false
  | .convert t t' x => match gd, evO env x with
    | none, some (.n (.sli l) _ h) => denStr I o.dst t t' l h env lo c k
    | _, _ => match sem o (genv gd env) lo c with
      | some (chk, e) => chkK (gchk gd chk) (setK I.nt I.forced o.dst gd e env (fun env => k env lo c))
      | none => false
  | .range t x => match gd, evO env x with
    | none, some e => denRange I o.dst t e env lo c k
    | _, _ => false
  | .next x true => match gd, evO env x with
    | none, some e => denNext I o.dst e env lo c k
    | _, _ => false
  | .binOp .add _ x y _ => match gd, evO env x, evO env y with
    | none, some (.n (.one .str) _ h), some (.n (.one .str) _ h') => denCat I o.dst h h' env lo c k
    | _, _, _ => match sem o (genv gd env) lo c with
      | some (chk, e) => chkK (gchk gd chk) (setK I.nt I.forced o.dst gd e env (fun env => k env lo c))
      | none => false
  | _ => match sem o (genv gd env) lo c with
    | some (chk, e) => chkK (gchk gd chk) (setK I.nt I.forced o.dst gd e env (fun env => k env lo c))
    | none => false
def denOps (I : FI) (all : List Oper) : List Oper → Env → Lo → Core → (Env → Lo → Core → Bool) → Bool
  | [], env, lo, c, k => k env lo c
  | o :: rest, env, lo, c, k => match guardOf all env o with
    | none => false
    | some gd => denOp I o gd env lo c (fun env lo c => denOps I all rest env lo c k)
def stripG : Env → Env
  | [] => []
  | (a, some (.g _ _ _ _)) :: l => (a, none) :: stripG l
  | x :: l => x :: stripG l

def appN : List Nat → List Nat → List Nat
  | [], m => m
  | a :: l, m => a :: appN l m

/-! ### Regions whose order is drawn -/
def bindsE (e : Edge) : Bool :=
  match e.ground with
  | .textOnly _ | .gcOnly _ => false
  | _ => true
/-- What an operation hangs on, directly: a number's bits; and with all that these hang on. -/
def onMask : List Edge → Nat
  | [] => 0
  | e :: l => cond (bindsE e) (Nat.lor (Nat.shiftLeft 1 e.on) (onMask l)) (onMask l)
def lookM (i : Nat) : List (Nat × Nat) → Nat
  | [] => 0
  | (j, m) :: l => cond (Nat.beq j i) m (lookM i l)
def depMask (ms : List (Nat × Nat)) : List Edge → Nat
  | [] => 0
  | e :: l => cond (bindsE e) (Nat.lor (Nat.lor (Nat.shiftLeft 1 e.on) (lookM e.on ms)) (depMask ms l)) (depMask ms l)
def masksOf (all : List Oper) : List (Nat × Nat) → List (Nat × Nat) → List (Nat × Nat)
  | [], ms => ms
  | (i, _) :: l, ms => match nthO i all with
    | some o => masksOf all l ((i, depMask ms o.after.toList) :: ms)
    | none => masksOf all l ms
def bitOf (m i : Nat) : Bool := Nat.beq (Nat.land (Nat.shiftRight m i) 1) 1
def looksO (ops : Array Oper) (o : Oper) : List Nat :=
  appN (o.op.operands.toList.filterMap fun | .tmp t => some t | _ => none) (match o.guard with
    | some (g, _) => match nthO g ops.toList with
      | some og => match og.dst with
        | some d => [d]
        | none => []
      | none => []
    | none => [])
def beqO (d : Nat) : Option Nat → Bool
  | some e => Nat.beq e d
  | none => false
/-- Nobody but those below looks at a slot, or sets it. -/
def freshI (ops : Array Oper) (ms : List (Nat × Nat)) (hard : Bool) (i : Nat) (d : Nat) (mi : Nat) : List Oper → Nat → Bool
  | [], _ => true
  | o :: l, j => cond (cond (Nat.beq j i) (cond hard true (notB (memN d (looksO ops o)))) (cond (bitOf (lookM j ms) i) true (cond (cond hard (bitOf mi j) false) true
      (cond (memN d (looksO ops o)) false (notB (beqO d o.dst)))))) (freshI ops ms hard i d mi l (Nat.succ j)) false
def isAI (I : FI) (o : Oper) : Bool :=
  match o.guard, o.dst with
  | none, some d => match o.op with
    | .alloc _ => memN d I.locs
    | .buildSlice _ len _ => cond (Nat.beq len 0) false (memN d I.locs)
    | _ => false
  | _, _ => false
def noSel (o : Oper) : Bool :=
  match o.op with
  | .select _ _ => false
  | _ => true
def belowAll (ms : List (Nat × Nat)) (i : Nat) : List (Nat × Nat) → Bool
  | [] => true
  | (j, k) :: l => cond (cond (Nat.beq k 2) true (bitOf (lookM j ms) i)) (belowAll ms i l) false
def noLook2 (ops : Array Oper) (d : Nat) : List (Nat × Nat) → Bool
  | [] => true
  | (j, k) :: l => cond (cond (Nat.beq k 2) (match nthO j ops.toList with
    | some o => notB (memN d (looksO ops o))
    | none => false) true) (noLook2 ops d l) false
/-- An order that will do: light operations (0), heavy ones (1), early ones (2). -/
def drwOk (I : FI) (ops : Array Oper) (ms : List (Nat × Nat)) : List (Nat × Nat) → Nat → Bool
  | [], done => Nat.beq done (Nat.sub (Nat.shiftLeft 1 ops.size) 1)
  | (i, k) :: l, done => match nthO i ops.toList with
    | none => false
    | some o => cond (bitOf done i) false (cond (Nat.beq (Nat.lor done (onMask o.after.toList)) done) (cond (noSel o) (cond
        (match k with
        | 0 => match o.dst with
          | some d => freshI ops ms false i d 0 ops.toList 0
          | none => true
        | 1 => cond (match o.dst with
          | some d => freshI ops ms true i d (lookM i ms) ops.toList 0
          | none => true) (belowAll ms i l) false
        | _ => cond (isAI I o) (cond (match o.dst with
          | some d => freshI ops ms false i d 0 ops.toList 0
          | none => true) (cond (match o.dst with
          | some d => noLook2 ops d l
          | none => true) (belowAll ms i l) false) false) false)
        (drwOk I ops ms l (Nat.lor done (Nat.shiftLeft 1 i))) false) false) false)
def lightO (o : Oper) (gd : Gd) (env : Env) : Bool :=
  match o.op with
  | .call cl => match cl.callee with
    | .builtin b => match b with
      | .append => false
      | .clear => false
      | _ => true
    | _ => false
  | .store _ _ _ => false
  | .alloc _ => false
  | .box _ _ => false
  | .buildSlice _ _ _ => false
  | .range _ _ => false
  | .next _ _ => false
  | .convert _ _ x => match gd, evO env x with
    | none, some (.n (.sli _) _ _) => false
    | _, _ => true
  | _ => true
/-- Strings are laid side by side: the machine's strings grow. -/
def catO (o : Oper) (gd : Gd) (env : Env) : Bool :=
  match o.op with
  | .binOp .add _ x y _ => match gd, evO env x, evO env y with
    | none, some (.n (.one .str) _ _), some (.n (.one .str) _ _) => true
    | _, _, _ => false
  | _ => false
/-- May what it gives change with memory? -/
def stateO (o : Oper) (env : Env) : Bool :=
  match o.op with
  | .load _ _ => true
  | .index _ _ _ => true
  | .binOp op _ x y _ => match op with
    | .add => false
    | _ => match evO env x, evO env y with
      | some (.n (.one .str) _ _), some (.n (.one .str) _ _) => true
      | _, _ => false
  | _ => false
/-- May what it gives change with strings? -/
def strO (o : Oper) (env : Env) : Bool :=
  match o.op with
  | .index _ _ _ => true
  | .binOp op _ x y _ => match op with
    | .add => false
    | _ => match evO env x, evO env y with
      | some (.n (.one .str) _ _), some (.n (.one .str) _ _) => true
      | _, _ => false
  | _ => false
/-- Nothing that is done looks at strings. -/
def noS (all : List Oper) (env : Env) : List (Nat × Nat) → Bool
  | [] => true
  | (j, _) :: l => match nthO j all with
    | none => false
    | some o => match guardOf all env o with
      | none => false
      | some gd => cond (strO o (genv gd env)) false (noS all env l)
def beqSh (a b : Sh) : Bool := fitSh a b && fitSh b a
def eqE (e e' : Ent) : Option Bool :=
  match e, e' with
  | .n s _ x, .n s' _ y => cond (fitSh s s') (some (Nat.beq x y)) none
  | .b x, .b y => some (eqB x y)
  | .c i, .c j => cond (Nat.beq i j) (some true) none
  | _, _ => none
def unG (gd : Gd) (e : Ent) : Option Ent :=
  match gd, e with
  | none, e => some e
  | some _, .g _ _ _ e => some e
  | _, _ => none
/-- A light operation that is done would still give the same. -/
def again (all : List Oper) (o : Oper) (env : Env) (lo : Lo) (c : Core) (k : Bool) : Bool :=
  match guardOf all env o with
  | none => false
  | some gd => cond (stateO o (genv gd env)) (match o.dst with
    | none => false
    | some d => match getA env d, sem o (genv gd env) lo c with
      | some e0, some (chk, e) => match unG gd e0 with
        | none => false
        | some e0 => match eqE e e0 with
          | none => false
          | some b => chkK (gchk gd chk) (chkK (gchk gd (some b)) k)
      | _, _ => false) k
def againAll (all : List Oper) (mi : Nat) (env : Env) (lo : Lo) (c : Core) (k : Bool) : List (Nat × Nat) → Bool
  | [] => k
  | (j, q) :: l => match q with
    | 0 => cond (bitOf mi j) (againAll all mi env lo c k l) (match nthO j all with
      | none => false
      | some o => again all o env lo c (againAll all mi env lo c k l))
    | _ => againAll all mi env lo c k l
def denDrw (I : FI) (all : List Oper) (ms : List (Nat × Nat)) : List (Nat × Nat) → List (Nat × Nat) → Env → Lo → Core → (Env → Lo → Core → Bool) → Bool
  | [], done, env, lo, c, k => k env lo c
  | (i, q) :: rest, done, env, lo, c, k => match nthO i all with
    | none => false
    | some o => match guardOf all env o with
      | none => false
      | some gd => match q with
        | 0 => cond (lightO o gd env) (denOp I o gd env lo c (fun env' lo c => cond (cond (catO o gd env) (noS all env' done) true) (denDrw I all ms rest ((i, q) :: done) env' lo c k) false)) false
        | _ => denOp I o gd env lo c (fun env lo c => againAll all (lookM i ms) env lo c (denDrw I all ms rest ((i, q) :: done) env lo c k) done)
def denDrawn (I : FI) (ops : Array Oper) (pi : List (Nat × Nat)) (env : Env) (lo : Lo) (c : Core) (k : Env → Lo → Core → Bool) : Bool :=
  cond (drwOk I ops (masksOf ops.toList pi []) pi 0) (denDrw I ops.toList (masksOf ops.toList pi []) pi [] env lo c k) false

/-! ### Code -/
inductive Ex where
  | nm
  | ex (id : Nat)
  | rt
  | gt (l : Nat)
/-- What must be known beside the code: where branches meet again, and which slots they hand on. -/
inductive An where
  | dead
  | skip
  | reg
  | drw (pi : List (Nat × Nat))
  | ret
  | ex
  | go
  | sq (a b : An)
  | sj (ps : List (Nat × PSh)) (a b : An)
  | cd (a b : An)
  | bl (a : An)
  | lp (ps : List (Nat × PSh)) (fuel : Nat) (a : An)
  | sc (a : An)
  | lb (l : Nat) (ps : List (Nat × PSh)) (fuel : Nat) (r a : An)
  | mn (a : An)
def dstsOf : List Oper → List Nat
  | [] => []
  | o :: l => match o.dst with
    | some d => d :: dstsOf l
    | none => dstsOf l
/-- The slots that code sets. -/
def asg : Code → List Nat
  | .region _ ops _ => dstsOf ops.toList
  | .seq a b => appN (asg a) (asg b)
  | .cond _ a b => appN (asg a) (asg b)
  | .block _ a => asg a
  | .loop a => asg a
  | .scope a => asg a
  | _ => []
def opSt : List Oper → Bool
  | [] => false
  | o :: l => match o.op with
    | .store _ _ _ => true
    | .next _ _ => true
    | _ => opSt l
/-- Does code write? -/
def hasSt : Code → Bool
  | .region _ ops _ => opSt ops.toList
  | .seq a b => hasSt a || hasSt b
  | .cond _ a b => hasSt a || hasSt b
  | .block _ a => hasSt a
  | .loop a => hasSt a
  | .scope a => hasSt a
  | _ => false
def shade {α : Type} : List Nat → List (Nat × Option α) → List (Nat × Option α)
  | [], l => l
  | a :: r, l => (a, none) :: shade r l
def setEnv : List (Nat × PSh) → List Nat → Env → Env
  | (i, .sh s) :: ps, x :: xs, env => (i, some (entSh s x)) :: setEnv ps xs env
  | (i, .loc l) :: ps, x :: xs, env => (i, some (.lp i l 0)) :: setEnv ps xs env
  | (i, .itr) :: ps, x :: xs, env => (i, some (.it i)) :: setEnv ps xs env
  | _, _, env => env
def setLo : List (Nat × PSh) → List Nat → Lo → Lo
  | (_, .sh _) :: ps, _ :: xs, lo => setLo ps xs lo
  | (i, .loc l) :: ps, x :: xs, lo => (i, some (.blk l x)) :: setLo ps xs lo
  | (i, .itr) :: ps, x :: xs, lo => (i, some (.itr (Nat.shiftRight x 16) (Nat.land x 65535))) :: setLo ps xs lo
  | _, _, lo => lo
def baseEnv (env : Env) (x : Code) (ps : List (Nat × PSh)) (l : List Nat) : Env := setEnv ps l (shade (asg x) env)
def baseLo (lo : Lo) (x : Code) (ps : List (Nat × PSh)) (l : List Nat) : Lo := setLo ps l (cond (hasSt x) [] (shade (asg x) lo))
def getPs (env : Env) (lo : Lo) : List (Nat × PSh) → Option (List (Bool × Nat))
  | [] => some []
  | (i, .sh s) :: ps => match evO env (.tmp i) with
    | some e => match toN s e with
      | some n => match getPs env lo ps with
        | some r => some (n :: r)
        | none => none
      | none => none
    | none => none
  | (i, .loc l) :: ps => match evO env (.tmp i), locOf lo i with
    | some (.lp j l' o), some (L, y) => cond (Nat.beq j i && Nat.beq o 0 && beqKs l L && beqKs l' L)
      (match getPs env lo ps with
      | some r => some ((true, y) :: r)
      | none => none) none
    | _, _ => none
  | (i, .itr) :: ps => match evO env (.tmp i), getA lo i with
    | some (.it j), some (.itr h p) => cond (Nat.beq j i)
      (match getPs env lo ps with
      | some r => some ((false, Nat.add (Nat.shiftLeft h 16) p) :: r)
      | none => none) none
    | _, _ => none
def lenP : List (Nat × PSh) → Nat
  | [] => 0
  | _ :: l => Nat.succ (lenP l)
/-- What is handed on is set there, but for local variables. -/
def psIn : List (Nat × PSh) → List Nat → Bool → Bool
  | [], _, _ => true
  | (i, .sh _) :: l, as, st => cond (memN i as) (psIn l as st) false
  | (_, .loc _) :: l, as, st => psIn l as st
  | (_, .itr) :: l, as, st => cond st (psIn l as st) false
/-- On to where branches meet. -/
def jump (ps : List (Nat × PSh)) (J : NF (lenP ps)) (env : Env) (lo : Lo) (c : Core) : Bool :=
  match getPs env lo ps with
  | some l => forceAll l (fun xs => NF.ap (lenP ps) J xs c)
  | none => false
abbrev Kont := Ex → Env → Lo → Core → Bool
def den (I : FI) : An → Code → Env → Lo → Core → Kont → Bool
  | .skip, .skip, env, lo, c, k => k .nm env lo c
  | .skip, .label _, env, lo, c, k => k .nm env lo c
  | .reg, .region _ ops false, env, lo, c, k => denOps I ops.toList ops.toList env lo c (fun env lo c => k .nm (stripG env) lo c)
  | .drw pi, .region _ ops true, env, lo, c, k => denDrawn I ops pi env lo c (fun env lo c => k .nm (stripG env) lo c)
  | .ret, .ret, env, lo, c, k => k .rt env lo c
  | .ex, .exit id, env, lo, c, k => k (.ex id) env lo c
  | .go, .goto l, env, lo, c, k => k (.gt l) env lo c
  | .sq a b, .seq x y, env, lo, c, k => den I a x env lo c (fun e env lo c => match e with
    | .nm => den I b y env lo c k
    | e => k e env lo c)
  | .sj ps a b, .seq x y, env, lo, c, k => cond (psIn ps (asg x) (hasSt x)) (join (NF.of (lenP ps) (fun l c => den I b y (baseEnv env x ps l) (baseLo lo x ps l) c k))
      (fun J => den I a x env lo c (fun e env' lo' c' => match e with
        | .nm => jump ps J env' lo' c'
        | e => k e env' lo' c'))) false
  | .cd a b, .cond q x y, env, lo, c, k => match evO env q with
    | some e => match asB e with
      | some t => cond t (den I a x env lo c k) (den I b y env lo c k)
      | none => false
    | none => false
  | .bl a, .block id x, env, lo, c, k => den I a x env lo c (fun e env lo c => match e with
    | .ex i => cond (Nat.beq i id) (k .nm env lo c) (k (.ex i) env lo c)
    | e => k e env lo c)
  | .lp ps fuel a, .loop x, env, lo, c, k => cond (psIn ps (asg x) (hasSt x))
    (jump ps (loopN fuel (NF.of (lenP ps) (fun _ _ => false)) (fun ih => NF.of (lenP ps) (fun l c => den I a x (baseEnv env x ps l) (baseLo lo x ps l) c (fun e env' lo' c' => match e with
      | .nm => jump ps ih env' lo' c'
      | e => k e env' lo' c')))) env lo c) false
  | .sc a, .scope x, env, lo, c, k => den I a x env lo c (fun e env lo c => match e with
    | .gt l => match findLabel x l with
      | none => k (.gt l) env lo c
      | some _ => false
    | e => k e env lo c)
  | .lb l ps fuel r a, x, env, lo, c, k => match findLabel x l with
    | none => false
    | some rest => cond (psIn ps (asg x) (hasSt x)) (join (loopN fuel (NF.of (lenP ps) (fun _ _ => false)) (fun ih => NF.of (lenP ps) (fun xs c => den I r rest (baseEnv env x ps xs) (baseLo lo x ps xs) c (fun e env' lo' c' => match e with
        | .gt l' => cond (Nat.beq l' l) (jump ps ih env' lo' c') (k (.gt l') env' lo' c')
        | e => k e env' lo' c'))))
      (fun J => den I a x env lo c (fun e env' lo' c' => match e with
        | .gt l' => cond (Nat.beq l' l) (jump ps J env' lo' c') (k (.gt l') env' lo' c')
        | e => k e env' lo' c'))) false
  | .mn a, x, env, lo, c, k => den I a x env lo c k
  | _, _, _, _, _, _ => false

/-! ### Functions -/
def resNs (env : Env) (lo : Lo) (c : Core) : List ResultVar → List Sh → Option (List (Option Bool × Bool × Nat))
  | [], [] => some []
  | .tmp t :: vs, s :: ss => match evO env (.tmp t) with
    | some e => match toN s e with
      | some (fl, n) => match resNs env lo c vs ss with
        | some r => some ((none, fl, n) :: r)
        | none => none
      | none => none
    | none => none
  | .cell t ty' :: vs, s :: ss => match evO env (.tmp t) with
    | some e => match semLoad ty' e lo c with
      | some (chk, e') => match toN s e' with
        | some (fl, n) => match resNs env lo c vs ss with
          | some r => some ((chk, fl, n) :: r)
          | none => none
        | none => none
      | none => none
    | none => none
  | _, _ => none
def chkAll : List (Option Bool × Bool × Nat) → (List (Bool × Nat) → Bool) → Bool
  | [], k => k []
  | (chk, fl, n) :: l, k => chkK chk (chkAll l (fun r => k ((fl, n) :: r)))
def argEnv : List Sh → List Nat → Nat → Env
  | s :: ss, x :: xs, i => (i, some (entSh s x)) :: argEnv ss xs (Nat.succ i)
  | _, _, _ => []
/-- A function's whole body. -/
def denF (I : FI) (an : An) (code : Code) (vars : List ResultVar) (ps rs : List Sh) : List Nat → Core → (List Nat → Core → Bool) → Bool := fun args c k =>
  den I an code (argEnv ps args 0) [] c (fun e env lo c => match e with
    | .nm => match resNs env lo c vars rs with
      | some l => chkAll l (fun l => forceAll l (fun xs => k xs c))
      | none => false
    | .rt => match resNs env lo c vars rs with
      | some l => chkAll l (fun l => forceAll l (fun xs => k xs c))
      | none => false
    | _ => false)
end Go.Proofs.YtaekfgbfpfecdaaGreat.VM

