/- Plain words on lists of rows and on sets of at most eight vertices: no program in sight; no condition. -/
import Derived.Test.YthfjphkhpfmdcaaWMore
import Derived.Laws.BitsLemmas
namespace Go.Proofs.Ythfjphkhpfmdcaa.Pure
open Go.RowKit Go.Proofs.YthfjphkhpfmdcaaW.PrintWords Go.Proofs.YthfjphkhpfmdcaaW.PrintLast Go.Proofs.YthfjphkhpfmdcaaW.PrintMore

theorem wrap_close (x : Int) (h0 : -1000000000000000000 ≤ x) (h1 : x ≤ 1000000000000000000) : wrap64 x = x := by unfold wrap64; omega
theorem wraps_i64 (n : Int) (h0 : 0 ≤ n) (h1 : n < 2 ^ 62) : IntKind.i64.wrap n = n := by
  rw [IntKind.wrap_i64]
  omega

theorem and_nat (a b : Nat) (ha : a < 2 ^ 62) (hb : b < 2 ^ 62) : Go.bits .and .i64 (a : Int) (b : Int) = ((a &&& b : Nat) : Int) := (bits_nat .i64 62 (by decide) wraps_i64 a b ha hb).1
theorem or_nat (a b : Nat) (ha : a < 2 ^ 62) (hb : b < 2 ^ 62) : Go.bits .or .i64 (a : Int) (b : Int) = ((a ||| b : Nat) : Int) := (bits_nat .i64 62 (by decide) wraps_i64 a b ha hb).2
theorem ofInt_nat (a : Nat) (ha : a < 2 ^ 62) : (BitVec.ofInt 64 (a : Int)).toNat = a := by
  rw [BitVec.ofInt_natCast, BitVec.toNat_ofNat]
  exact Nat.mod_eq_of_lt (Nat.lt_of_lt_of_le ha (by decide))
theorem andNot_nat (a b : Nat) (ha : a < 2 ^ 62) (hb : b < 2 ^ 62) : Go.bits .andNot .i64 (a : Int) (b : Int) = ((a &&& (2 ^ 64 - 1 - b) : Nat) : Int) := by
  have hx : a &&& (2 ^ 64 - 1 - b) < 2 ^ 62 := Nat.lt_of_le_of_lt Nat.and_le_left ha
  show IntKind.i64.wrap ((BitVec.ofInt 64 (a : Int) &&& ~~~BitVec.ofInt 64 (b : Int)).toNat : Int) = _
  rw [BitVec.toNat_and, BitVec.toNat_not, ofInt_nat a ha, ofInt_nat b hb]
  exact wraps_i64 _ (Int.natCast_nonneg _) (by exact_mod_cast hx)

theorem shl_one (v : Nat) (hv : v ≤ 60) : shl .i64 1 (v : Int) = ((2 ^ v : Nat) : Int) := by
  unfold shl
  rw [Int.toNat_natCast, show min v IntKind.i64.bits = v from Nat.min_eq_left (by show v ≤ 64; omega), Int.one_mul]
  have h : (2 : Nat) ^ v < 2 ^ 62 := Nat.pow_lt_pow_right (by decide) (by omega)
  rw [show ((2 : Int) ^ v) = ((2 ^ v : Nat) : Int) by simp]
  exact wraps_i64 _ (Int.natCast_nonneg _) (by exact_mod_cast h)
theorem shr_nat (x v : Nat) (hv : v ≤ 60) : shr .i64 (x : Int) (v : Int) = ((x / 2 ^ v : Nat) : Int) := by
  unfold shr
  rw [Int.toNat_natCast, show min v IntKind.i64.bits = v from Nat.min_eq_left (by show v ≤ 64; omega)]
  simp

theorem and_pow (x v : Nat) : x &&& 2 ^ v = if x.testBit v = true then 2 ^ v else 0 := by
  apply Nat.eq_of_testBit_eq
  intro i
  rw [Nat.testBit_and, Nat.testBit_two_pow]
  by_cases h : v = i
  · subst h
    cases hb : x.testBit v <;> simp
  · rw [decide_eq_false h, Bool.and_false]
    split
    · rw [Nat.testBit_two_pow, decide_eq_false h]
    · simp
/-- The set has the vertex, as the reference asks. -/
theorem has_mask (x v : Nat) (hx : x < 2 ^ 62) (hv : v ≤ 60) : (Go.bits .and .i64 (x : Int) (shl .i64 1 (v : Int)) != 0) = x.testBit v := by
  have h : (2 : Nat) ^ v < 2 ^ 62 := Nat.pow_lt_pow_right (by decide) (by omega)
  rw [shl_one v hv, and_nat x _ hx h, and_pow]
  have hp : 0 < 2 ^ v := Nat.two_pow_pos v
  cases x.testBit v with
  | false => rfl
  | true =>
    rw [if_pos rfl, bne_iff_ne]
    omega
/-- The set has the vertex, as the program asks. -/
theorem has_shift (x v : Nat) (hx : x < 2 ^ 62) (hv : v ≤ 60) : (Go.bits .and .i64 (shr .i64 (x : Int) (v : Int)) 1 == 1) = x.testBit v := by
  rw [shr_nat x v hv]
  have h1 : x / 2 ^ v < 2 ^ 62 := Nat.lt_of_le_of_lt (Nat.div_le_self _ _) hx
  have e := and_nat (x / 2 ^ v) 1 h1 (by decide)
  rw [show ((1 : Nat) : Int) = 1 from rfl] at e
  rw [e, Nat.and_one_is_mod, Nat.testBit_eq_decide_div_mod_eq]
  by_cases h : x / 2 ^ v % 2 = 1
  · rw [h]; rfl
  · have h0 : x / 2 ^ v % 2 = 0 := by omega
    rw [h0]; rfl

/-- All of d places from i on. -/
def allFrom (p : Nat → Bool) : Nat → Nat → Bool
  | _, 0 => true
  | i, d + 1 => p i && allFrom p (i + 1) d
theorem allFrom_succ (p : Nat → Bool) (i d : Nat) : allFrom p i (d + 1) = (p i && allFrom p (i + 1) d) := rfl
theorem allFrom_iff (p : Nat → Bool) : ∀ (d i : Nat), allFrom p i d = true ↔ ∀ j, i ≤ j → j < i + d → p j = true
  | 0, i => by simp [allFrom]; intro j h1 h2; omega
  | d + 1, i => by
    unfold allFrom
    rw [Bool.and_eq_true, allFrom_iff p d (i + 1)]
    constructor
    · rintro ⟨h0, h⟩ j h1 h2
      by_cases e : j = i
      · rw [e]; exact h0
      · exact h j (by omega) (by omega)
    · intro h
      exact ⟨h i (Nat.le_refl _) (by omega), fun j h1 h2 => h j (by omega) (by omega)⟩

/-- Row v of the list, as a set. -/
def rn (l : List Int) (v : Nat) : Nat := (rd l (v : Int)).toNat
/-- Row v is a set of the n vertices, without v. -/
def rowB (l : List Int) (n v : Nat) : Bool := (decide (0 ≤ rd l (v : Int)) && decide (rd l (v : Int) ≤ ((2 ^ n - 1 : Nat) : Int))) && !(rn l v).testBit v
/-- v and w are neighbors both ways, or not at all. -/
def symB (l : List Int) (v w : Nat) : Bool := (rn l v).testBit w == (rn l w).testBit v
/-- The graph is valid. -/
def okB (s : Int) (l : List Int) : Bool :=
  (decide (1 ≤ s) && decide (s ≤ 8)) && (decide ((l.length : Int) = s) && (allFrom (rowB l l.length) 0 l.length && allFrom (fun v => allFrom (symB l v) 0 l.length) 0 l.length))

/-- What a valid graph is. -/
structure Valid (s : Int) (l : List Int) (n : Nat) : Prop where
  size : s = (n : Int)
  lo : 1 ≤ n
  hi : n ≤ 8
  len : l.length = n
  row : ∀ v, v < n → rd l (v : Int) = ((rn l v : Nat) : Int)
  lt : ∀ v, v < n → rn l v < 2 ^ n
  irr : ∀ v, v < n → (rn l v).testBit v = false
  sym : ∀ v w, v < n → w < n → (rn l v).testBit w = (rn l w).testBit v

theorem rowB_iff (l : List Int) (n v : Nat) : rowB l n v = true ↔ rd l (v : Int) = ((rn l v : Nat) : Int) ∧ rn l v < 2 ^ n ∧ (rn l v).testBit v = false := by
  unfold rowB rn
  have hp : 0 < 2 ^ n := Nat.two_pow_pos n
  simp only [Bool.and_eq_true, decide_eq_true_eq, Bool.not_eq_true']
  constructor
  · rintro ⟨⟨h1, h2⟩, h3⟩
    exact ⟨by omega, by omega, h3⟩
  · rintro ⟨h1, h2, h3⟩
    exact ⟨⟨by omega, by omega⟩, h3⟩

theorem okB_iff (s : Int) (l : List Int) : okB s l = true ↔ Valid s l l.length := by
  unfold okB
  simp only [Bool.and_eq_true, decide_eq_true_eq, allFrom_iff, symB, rowB_iff, beq_iff_eq]
  constructor
  · rintro ⟨⟨h1, h2⟩, h3, h4, h5⟩
    refine ⟨h3.symm, by omega, by omega, rfl, fun v hv => (h4 v (by omega) (by omega)).1, fun v hv => (h4 v (by omega) (by omega)).2.1, fun v hv => (h4 v (by omega) (by omega)).2.2, fun v w hv hw => h5 v (by omega) (by omega) w (by omega) (by omega)⟩
  · intro h
    have h1 := h.size
    have h2 := h.lo
    have h3 := h.hi
    exact ⟨⟨by omega, by omega⟩, h1.symm, fun v _ hv => ⟨h.row v (by omega), h.lt v (by omega), h.irr v (by omega)⟩, fun v _ hv w _ hw => h.sym v w (by omega) (by omega)⟩

theorem pow_le_256 (n : Nat) (h : n ≤ 8) : 2 ^ n ≤ 256 := Nat.pow_le_pow_right (by decide) h
theorem full_val (n : Nat) (h : n ≤ 8) : wrap64 (shl .i64 1 (n : Int) - 1) = ((2 ^ n - 1 : Nat) : Int) := by
  have hp : 0 < 2 ^ n := Nat.two_pow_pos n
  have hq := pow_le_256 n h
  rw [shl_one n (by omega), wrap_close _ (by omega) (by omega)]
  omega

theorem both_of {α : Type} {g f : Nat → Option α} {r : α} (h1 : Ev g r) (h2 : Ev f r) : ∃ (k : Nat) (r : α), g k = some r ∧ f k = some r := by
  obtain ⟨K, h1⟩ := h1
  obtain ⟨K', h2⟩ := h2
  exact ⟨max K K', r, h1 _ (by omega), h2 _ (by omega)⟩

end Go.Proofs.Ythfjphkhpfmdcaa.Pure
