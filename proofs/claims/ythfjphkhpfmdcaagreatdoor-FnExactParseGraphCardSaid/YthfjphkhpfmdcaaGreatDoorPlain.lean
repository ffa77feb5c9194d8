/- Plain words on lists of rows and on sets of at most eight vertices: no program in sight; no condition. -/
import Derived.Test.YthfjphkhpfmdcaaGreatDoorWMore
import Derived.Laws.BitsLemmas
namespace Go.Proofs.YthfjphkhpfmdcaaGreatDoor.Pure
open Go.RowKit Go.Proofs.YthfjphkhpfmdcaaGreatDoorW.PrintWords Go.Proofs.YthfjphkhpfmdcaaGreatDoorW.PrintLast Go.Proofs.YthfjphkhpfmdcaaGreatDoorW.PrintMore

theorem wrap_close (x : Int) (h0 : -1000000000000000000 ≤ x) (h1 : x ≤ 1000000000000000000) : wrap64 x = x := by unfold wrap64; omega
theorem wraps_i64 (n : Int) (h0 : 0 ≤ n) (h1 : n < 2 ^ 62) : IntKind.i64.wrap n = n := by
  rw [IntKind.wrap_i64]
  omega

theorem and_nat (a b : Nat) (ha : a < 2 ^ 62) (hb : b < 2 ^ 62) : Go.bits .and .i64 (a : Int) (b : Int) = ((a &&& b : Nat) : Int) := (bits_nat .i64 62 (by decide) wraps_i64 a b ha hb).1
theorem or_nat (a b : Nat) (ha : a < 2 ^ 62) (hb : b < 2 ^ 62) : Go.bits .or .i64 (a : Int) (b : Int) = ((a ||| b : Nat) : Int) := (bits_nat .i64 62 (by decide) wraps_i64 a b ha hb).2
theorem ofInt_nat (a : Nat) (ha : a < 2 ^ 62) : (BitVec.ofInt 64 (a : Int)).toNat = a := by
  rw [BitVec.ofInt_natCast, BitVec.toNat_ofNat]
  exact Nat.mod_eq_of_lt (Nat.lt_of_lt_of_le ha (by decide))
theorem andNot_nat (a b : Nat) (ha : a < 2 ^ 62) (hb : b < 2 ^ 62) : Go.bits .andNot .i64 (a : Int) (b : Int) = ((a &&& (2 ^ 64 - 1 - b) : Nat) : Int) := by
  have hx : a &&& (2 ^ 64 - 1 - b) < 2 ^ 62 := Nat.lt_of_le_of_lt Nat.and_le_left ha
  show IntKind.i64.wrap ((BitVec.ofInt 64 (a : Int) &&& ~~~BitVec.ofInt 64 (b : Int)).toNat : Int) = _
  rw [BitVec.toNat_and, BitVec.toNat_not, ofInt_nat a ha, ofInt_nat b hb]
  exact wraps_i64 _ (Int.natCast_nonneg _) (by exact_mod_cast hx)

theorem shl_one (v : Nat) (hv : v ≤ 60) : shl .i64 1 (v : Int) = ((2 ^ v : Nat) : Int) := by
  unfold shl
  rw [Int.toNat_natCast, show min v IntKind.i64.bits = v from Nat.min_eq_left (by show v ≤ 64; omega), Int.one_mul]
  have h : (2 : Nat) ^ v < 2 ^ 62 := Nat.pow_lt_pow_right (by decide) (by omega)
  rw [show ((2 : Int) ^ v) = ((2 ^ v : Nat) : Int) by simp]
  exact wraps_i64 _ (Int.natCast_nonneg _) (by exact_mod_cast h)
theorem shr_nat (x v : Nat) (hv : v ≤ 60) : shr .i64 (x : Int) (v : Int) = ((x / 2 ^ v : Nat) : Int) := by
  unfold shr
  rw [Int.toNat_natCast, show min v IntKind.i64.bits = v from Nat.min_eq_left (by show v ≤ 64; omega)]
  simp

theorem and_pow (x v : Nat) : x &&& 2 ^ v = if x.testBit v = true then 2 ^ v else 0 := by
  apply Nat.eq_of_testBit_eq
  intro i
  rw [Nat.testBit_and, Nat.testBit_two_pow]
  by_cases h : v = i
  · subst h
    cases hb : x.testBit v <;> simp
  · rw [decide_eq_false h, Bool.and_false]
    split
    · rw [Nat.testBit_two_pow, decide_eq_false h]
    · simp
/-- The set has the vertex, as the reference asks. -/
theorem has_mask (x v : Nat) (hx : x < 2 ^ 62) (hv : v ≤ 60) : (Go.bits .and .i64 (x : Int) (shl .i64 1 (v : Int)) != 0) = x.testBit v := by
  have h : (2 : Nat) ^ v < 2 ^ 62 := Nat.pow_lt_pow_right (by decide) (by omega)
  rw [shl_one v hv, and_nat x _ hx h, and_pow]
  have hp : 0 < 2 ^ v := Nat.two_pow_pos v
  cases x.testBit v with
  | false => rfl
  | true =>
    rw [if_pos rfl, bne_iff_ne]
    omega
/-- The set has the vertex, as the program asks. -/
theorem has_shift (x v : Nat) (hx : x < 2 ^ 62) (hv : v ≤ 60) : (Go.bits .and .i64 (shr .i64 (x : Int) (v : Int)) 1 == 1) = x.testBit v := by
  rw [shr_nat x v hv]
  have h1 : x / 2 ^ v < 2 ^ 62 := Nat.lt_of_le_of_lt (Nat.div_le_self _ _) hx
  have e := and_nat (x / 2 ^ v) 1 h1 (by decide)
  rw [show ((1 : Nat) : Int) = 1 from rfl] at e
  rw [e, Nat.and_one_is_mod, Nat.testBit_eq_decide_div_mod_eq]
  by_cases h : x / 2 ^ v % 2 = 1
  · rw [h]; rfl
  · have h0 : x / 2 ^ v % 2 = 0 := by omega
    rw [h0]; rfl

/-- All of d places from i on. -/
def allFrom (p : Nat → Bool) : Nat → Nat → Bool
  | _, 0 => true
  | i, d + 1 => p i && allFrom p (i + 1) d
theorem allFrom_succ (p : Nat → Bool) (i d : Nat) : allFrom p i (d + 1) = (p i && allFrom p (i + 1) d) := rfl
theorem allFrom_iff (p : Nat → Bool) : ∀ (d i : Nat), allFrom p i d = true ↔ ∀ j, i ≤ j → j < i + d → p j = true
  | 0, i => by simp [allFrom]; intro j h1 h2; omega
  | d + 1, i => by
    unfold allFrom
    rw [Bool.and_eq_true, allFrom_iff p d (i + 1)]
    constructor
    · rintro ⟨h0, h⟩ j h1 h2
      by_cases e : j = i
      · rw [e]; exact h0
      · exact h j (by omega) (by omega)
    · intro h
      exact ⟨h i (Nat.le_refl _) (by omega), fun j h1 h2 => h j (by omega) (by omega)⟩

/-- Row v of the list, as a set. -/
def rn (l : List Int) (v : Nat) : Nat := (rd l (v : Int)).toNat
/-- Row v is a set of the n vertices, without v. -/
def rowB (l : List Int) (n v : Nat) : Bool := (decide (0 ≤ rd l (v : Int)) && decide (rd l (v : Int) ≤ ((2 ^ n - 1 : Nat) : Int))) && !(rn l v).testBit v
/-- v and w are neighbors both ways, or not at all. -/
def symB (l : List Int) (v w : Nat) : Bool := (rn l v).testBit w == (rn l w).testBit v
/-- The graph is valid. -/
def okB (s : Int) (l : List Int) : Bool :=
  (decide (1 ≤ s) && decide (s ≤ 8)) && (decide ((l.length : Int) = s) && (allFrom (rowB l l.length) 0 l.length && allFrom (fun v => allFrom (symB l v) 0 l.length) 0 l.length))

/-- What a valid graph is. -/
structure Valid (s : Int) (l : List Int) (n : Nat) : Prop where
  size : s = (n : Int)
  lo : 1 ≤ n
  hi : n ≤ 8
  len : l.length = n
  row : ∀ v, v < n → rd l (v : Int) = ((rn l v : Nat) : Int)
  lt : ∀ v, v < n → rn l v < 2 ^ n
  irr : ∀ v, v < n → (rn l v).testBit v = false
  sym : ∀ v w, v < n → w < n → (rn l v).testBit w = (rn l w).testBit v

theorem rowB_iff (l : List Int) (n v : Nat) : rowB l n v = true ↔ rd l (v : Int) = ((rn l v : Nat) : Int) ∧ rn l v < 2 ^ n ∧ (rn l v).testBit v = false := by
  unfold rowB rn
  have hp : 0 < 2 ^ n := Nat.two_pow_pos n
  simp only [Bool.and_eq_true, decide_eq_true_eq, Bool.not_eq_true']
  constructor
  · rintro ⟨⟨h1, h2⟩, h3⟩
    exact ⟨by omega, by omega, h3⟩
  · rintro ⟨h1, h2, h3⟩
    exact ⟨⟨by omega, by omega⟩, h3⟩

theorem okB_iff (s : Int) (l : List Int) : okB s l = true ↔ Valid s l l.length := by
  unfold okB
  simp only [Bool.and_eq_true, decide_eq_true_eq, allFrom_iff, symB, rowB_iff, beq_iff_eq]
  constructor
  · rintro ⟨⟨h1, h2⟩, h3, h4, h5⟩
    refine ⟨h3.symm, by omega, by omega, rfl, fun v hv => (h4 v (by omega) (by omega)).1, fun v hv => (h4 v (by omega) (by omega)).2.1, fun v hv => (h4 v (by omega) (by omega)).2.2, fun v w hv hw => h5 v (by omega) (by omega) w (by omega) (by omega)⟩
  · intro h
    have h1 := h.size
    have h2 := h.lo
    have h3 := h.hi
    exact ⟨⟨by omega, by omega⟩, h1.symm, fun v _ hv => ⟨h.row v (by omega), h.lt v (by omega), h.irr v (by omega)⟩, fun v _ hv w _ hw => h.sym v w (by omega) (by omega)⟩

theorem pow_le_256 (n : Nat) (h : n ≤ 8) : 2 ^ n ≤ 256 := Nat.pow_le_pow_right (by decide) h
theorem full_val (n : Nat) (h : n ≤ 8) : wrap64 (shl .i64 1 (n : Int) - 1) = ((2 ^ n - 1 : Nat) : Int) := by
  have hp : 0 < 2 ^ n := Nat.two_pow_pos n
  have hq := pow_le_256 n h
  rw [shl_one n (by omega), wrap_close _ (by omega) (by omega)]
  omega

/-- The vertices of a set, from i on, among d. -/
def bitsFrom (x : Nat) : Nat → Nat → List Nat
  | _, 0 => []
  | i, d + 1 => if x.testBit i = true then i :: bitsFrom x (i + 1) d else bitsFrom x (i + 1) d
theorem bitsFrom_mem (x : Nat) : ∀ (d i v : Nat), v ∈ bitsFrom x i d ↔ i ≤ v ∧ v < i + d ∧ x.testBit v = true
  | 0, i, v => by simp [bitsFrom]; intro h1 h2; omega
  | d + 1, i, v => by
    unfold bitsFrom
    have ih := bitsFrom_mem x d (i + 1) v
    by_cases h : x.testBit i = true
    · rw [if_pos h, List.mem_cons, ih]
      constructor
      · rintro (rfl | ⟨h1, h2, h3⟩)
        · exact ⟨Nat.le_refl _, by omega, h⟩
        · exact ⟨by omega, by omega, h3⟩
      · rintro ⟨h1, h2, h3⟩
        by_cases e : v = i
        · exact .inl e
        · exact .inr ⟨by omega, by omega, h3⟩
    · rw [if_neg h, ih]
      constructor
      · rintro ⟨h1, h2, h3⟩
        exact ⟨by omega, by omega, h3⟩
      · rintro ⟨h1, h2, h3⟩
        refine ⟨?_, by omega, h3⟩
        by_cases e : v = i
        · exact absurd (e ▸ h3) h
        · omega
theorem bitsFrom_none (x : Nat) : ∀ (d i : Nat), (∀ v, i ≤ v → x.testBit v = false) → bitsFrom x i d = []
  | 0, _, _ => rfl
  | d + 1, i, h => by
    unfold bitsFrom
    rw [if_neg (by rw [h i (Nat.le_refl _)]; decide)]
    exact bitsFrom_none x d (i + 1) (fun v hv => h v (by omega))
theorem bitsFrom_more (x n : Nat) (hx : x < 2 ^ n) : ∀ (d i e : Nat), i + d = n → bitsFrom x i (d + e) = bitsFrom x i d
  | 0, i, e, hd => by
    rw [Nat.zero_add]
    refine (bitsFrom_none x e i (fun v hv => ?_)).trans rfl
    exact Nat.testBit_lt_two_pow (Nat.lt_of_lt_of_le hx (Nat.pow_le_pow_right (by decide) (by omega)))
  | d + 1, i, e, hd => by
    rw [show d + 1 + e = (d + e) + 1 by omega]
    unfold bitsFrom
    rw [bitsFrom_more x n hx d (i + 1) e (by omega)]
theorem bitsFrom_length (x : Nat) : ∀ (d i : Nat), (bitsFrom x i d).length ≤ d
  | 0, _ => Nat.le_refl _
  | d + 1, i => by
    unfold bitsFrom
    have := bitsFrom_length x d (i + 1)
    split
    · rw [List.length_cons]; omega
    · omega
/-- The vertices of a set. -/
def bitsOf (x : Nat) : List Nat := bitsFrom x 0 8
theorem bitsOf_length (x : Nat) : (bitsOf x).length ≤ 8 := bitsFrom_length x 8 0
theorem bitsOf_eq (x n : Nat) (hx : x < 2 ^ n) (hn : n ≤ 8) : bitsOf x = bitsFrom x 0 n := by
  unfold bitsOf
  obtain ⟨e, he⟩ : ∃ e, 8 = n + e := ⟨8 - n, by omega⟩
  rw [he]
  exact bitsFrom_more x n hx n 0 e (by omega)
theorem bitsOf_mem (x n v : Nat) (hx : x < 2 ^ n) (hn : n ≤ 8) : v ∈ bitsOf x ↔ v < n ∧ x.testBit v = true := by
  rw [bitsOf_eq x n hx hn, bitsFrom_mem]
  constructor
  · rintro ⟨_, h2, h3⟩
    exact ⟨by omega, h3⟩
  · rintro ⟨h2, h3⟩
    exact ⟨by omega, by omega, h3⟩
/-- The set as a list of whole numbers. -/
def ints (vs : List Nat) : List Int := vs.map fun v : Nat => (v : Int)
theorem ints_length (vs : List Nat) : (ints vs).length = vs.length := by simp [ints]
theorem ints_at (vs : List Nat) (i : Nat) (h : i < vs.length) : rd (ints vs) (i : Int) = ((vs[i] : Nat) : Int) := by
  unfold rd ints
  rw [Int.toNat_natCast, List.getD_eq_getElem?_getD, List.getElem?_map, List.getElem?_eq_getElem h]
  rfl

/-- What a set reaches: itself and its neighbors. -/
def near (l : List Int) (x : Nat) : Nat := (bitsOf x).foldl (fun a v => a ||| rn l v) x
/-- No two of the set are neighbors. -/
def freeB (l : List Int) (x : Nat) : Bool := (bitsOf x).all fun v => rn l v &&& x == 0
/-- Any two of the set are neighbors. -/
def fullB (l : List Int) (x : Nat) : Bool := (bitsOf x).all fun v => (rn l v ||| 2 ^ v) &&& x == x
/-- The number is a set of a valid graph. -/
def setB (s : Int) (l : List Int) (x : Int) : Bool := okB s l && (decide (0 ≤ x) && decide (x ≤ ((2 ^ l.length - 1 : Nat) : Int)))
theorem setB_iff (s : Int) (l : List Int) (x : Int) : setB s l x = true ↔ Valid s l l.length ∧ ∃ y : Nat, x = (y : Int) ∧ y < 2 ^ l.length := by
  unfold setB
  have hp : 0 < 2 ^ l.length := Nat.two_pow_pos _
  rw [Bool.and_eq_true, okB_iff, Bool.and_eq_true, decide_eq_true_eq, decide_eq_true_eq]
  constructor
  · rintro ⟨h, h1, h2⟩
    exact ⟨h, x.toNat, by omega, by omega⟩
  · rintro ⟨h, y, rfl, h2⟩
    exact ⟨h, by omega, by omega⟩

theorem or_lt (n a b : Nat) (ha : a < 2 ^ n) (hb : b < 2 ^ n) : a ||| b < 2 ^ n := Nat.or_lt_two_pow ha hb
theorem foldl_lt (l : List Int) (n : Nat) (h : ∀ v, v < n → rn l v < 2 ^ n) : ∀ (vs : List Nat) (a : Nat), a < 2 ^ n → (∀ v ∈ vs, v < n) → vs.foldl (fun a v => a ||| rn l v) a < 2 ^ n
  | [], _, ha, _ => ha
  | v :: vs, _, ha, hv => foldl_lt l n h vs _ (or_lt n _ _ ha (h v (hv v List.mem_cons_self))) (fun w hw => hv w (List.mem_cons_of_mem _ hw))
theorem near_lt {s : Int} {l : List Int} {n x : Nat} (V : Valid s l n) (hx : x < 2 ^ n) : near l x < 2 ^ n :=
  foldl_lt l n V.lt _ _ hx (fun v hv => ((bitsOf_mem x n v hx V.hi).mp hv).1)
theorem bit_lt (n v : Nat) (hv : v < n) : 2 ^ v < 2 ^ n := Nat.pow_lt_pow_right (by decide) hv

/-- 'x without y' is empty: y holds x. -/
theorem without_empty (x y : Nat) (hx : x < 2 ^ 62) (hy : y < 2 ^ 62) : (x &&& (2 ^ 64 - 1 - y) = 0) ↔ y &&& x = x := by
  have hc : ∀ i, (2 ^ 64 - 1 - y).testBit i = (decide (i < 64) && !y.testBit i) := by
    intro i
    rw [show 2 ^ 64 - 1 - y = 2 ^ 64 - (y + 1) by omega]
    exact Nat.testBit_two_pow_sub_succ (Nat.lt_of_lt_of_le hy (by decide)) i
  have hx64 : ∀ i, 62 ≤ i → x.testBit i = false := fun i hi => Nat.testBit_lt_two_pow (Nat.lt_of_lt_of_le hx (Nat.pow_le_pow_right (by decide) hi))
  constructor
  · intro h
    apply Nat.eq_of_testBit_eq
    intro i
    have hi := congrArg (fun z => z.testBit i) h
    simp only [Nat.testBit_and, hc, Nat.zero_testBit] at hi
    rw [Nat.testBit_and]
    by_cases h64 : i < 64
    · rw [decide_eq_true h64, Bool.true_and] at hi
      cases hxi : x.testBit i <;> cases hyi : y.testBit i <;> simp_all
    · rw [hx64 i (by omega), Bool.and_false]
  · intro h
    apply Nat.eq_of_testBit_eq
    intro i
    have hi := congrArg (fun z => z.testBit i) h
    simp only [Nat.testBit_and] at hi
    rw [Nat.testBit_and, hc, Nat.zero_testBit]
    cases hxi : x.testBit i <;> cases hyi : y.testBit i <;> simp_all

theorem both_of {α : Type} {g f : Nat → Option α} {r : α} (h1 : Ev g r) (h2 : Ev f r) : ∃ (k : Nat) (r : α), g k = some r ∧ f k = some r := by
  obtain ⟨K, h1⟩ := h1
  obtain ⟨K', h2⟩ := h2
  exact ⟨max K K', r, h1 _ (by omega), h2 _ (by omega)⟩


/-! ### how many vertices a set has -/
/-- How many vertices a set has. -/
def size (x : Nat) : Nat := (bitsOf x).length
theorem size_le (x : Nat) : size x ≤ 8 := bitsOf_length x
/-- x lies within y. -/
def Sub (x y : Nat) : Prop := ∀ i, x.testBit i = true → y.testBit i = true
theorem Sub.refl (x : Nat) : Sub x x := fun _ h => h
theorem Sub.trans {x y z : Nat} (h : Sub x y) (k : Sub y z) : Sub x z := fun i hi => k i (h i hi)
theorem Sub.and {x y : Nat} (h : Sub x y) : x &&& y = x := by
  apply Nat.eq_of_testBit_eq
  intro i
  rw [Nat.testBit_and]
  cases hx : x.testBit i with
  | false => rfl
  | true => rw [h i hx]; rfl
theorem sub_of_and {x y : Nat} (h : x &&& y = x) : Sub x y := fun i hi => by
  rw [← h, Nat.testBit_and, Bool.and_eq_true] at hi
  exact hi.2
theorem Sub.lt {x y n : Nat} (h : Sub x y) (hy : y < 2 ^ n) : x < 2 ^ n := by
  rw [← h.and]
  exact Nat.and_lt_two_pow x hy
theorem Sub.le {x y : Nat} (h : Sub x y) : x ≤ y := by
  rw [← h.and]
  exact Nat.and_le_right
theorem Sub.antisymm {x y : Nat} (h : Sub x y) (k : Sub y x) : x = y := by
  apply Nat.eq_of_testBit_eq
  intro i
  rw [Bool.eq_iff_iff]
  exact ⟨h i, k i⟩
theorem bit_none (x n i : Nat) (hx : x < 2 ^ n) (hi : n ≤ i) : x.testBit i = false := Nat.testBit_lt_two_pow (Nat.lt_of_lt_of_le hx (Nat.pow_le_pow_right (by decide) hi))
theorem bit_below {x n i : Nat} (hx : x < 2 ^ n) (h : x.testBit i = true) : i < n := by
  rcases Nat.lt_or_ge i n with h1 | h1
  · exact h1
  · rw [bit_none x n i hx h1] at h
    cases h
theorem bitsFrom_mono (x y : Nat) (h : Sub x y) : ∀ d i, (bitsFrom x i d).length ≤ (bitsFrom y i d).length
  | 0, _ => Nat.le_refl _
  | d + 1, i => by
    have ih := bitsFrom_mono x y h d (i + 1)
    unfold bitsFrom
    by_cases hx : x.testBit i = true
    · rw [if_pos hx, if_pos (h i hx), List.length_cons, List.length_cons]
      omega
    · rw [if_neg hx]
      split
      · rw [List.length_cons]; omega
      · exact ih
theorem bitsFrom_same (x y : Nat) (h : Sub x y) : ∀ d i, (bitsFrom y i d).length ≤ (bitsFrom x i d).length → ∀ v, i ≤ v → v < i + d → y.testBit v = true → x.testBit v = true
  | 0, i, _, v, h1, h2, _ => by omega
  | d + 1, i, hl, v, h1, h2, hv => by
    have ih := bitsFrom_same x y h d (i + 1)
    have hm := bitsFrom_mono x y h d (i + 1)
    unfold bitsFrom at hl
    by_cases hx : x.testBit i = true
    · rw [if_pos hx, if_pos (h i hx), List.length_cons, List.length_cons] at hl
      by_cases e : v = i
      · rw [e]; exact hx
      · exact ih (by omega) v (by omega) (by omega) hv
    · rw [if_neg hx] at hl
      by_cases hy : y.testBit i = true
      · rw [if_pos hy, List.length_cons] at hl; omega
      · rw [if_neg hy] at hl
        by_cases e : v = i
        · exact absurd (e ▸ hv) hy
        · exact ih hl v (by omega) (by omega) hv
theorem size_mono {x y : Nat} (h : Sub x y) : size x ≤ size y := bitsFrom_mono x y h 8 0
theorem size_strict {x y n : Nat} (h : Sub x y) (hy : y < 2 ^ n) (hn : n ≤ 8) (hne : x ≠ y) : size x < size y := by
  rcases Nat.lt_or_ge (size x) (size y) with h1 | h1
  · exact h1
  · exfalso
    apply hne
    refine h.antisymm (fun i hyi => ?_)
    have hi := bit_below hy hyi
    exact bitsFrom_same x y h 8 0 h1 i (Nat.zero_le _) (by omega) hyi
theorem size_le_n {x n : Nat} (hx : x < 2 ^ n) (hn : n ≤ 8) : size x ≤ n := by
  unfold size
  rw [bitsOf_eq x n hx hn]
  exact bitsFrom_length x n 0
theorem sub_zero (x : Nat) : Sub 0 x := fun i h => by
  rw [Nat.zero_testBit] at h
  cases h
theorem size_pos {x n : Nat} (hx : x < 2 ^ n) (hn : n ≤ 8) (h : x ≠ 0) : 0 < size x := Nat.lt_of_le_of_lt (Nat.zero_le (size 0)) (size_strict (sub_zero x) hx hn (Ne.symm h))
theorem bit_one (v i : Nat) : (2 ^ v).testBit i = true ↔ v = i := by rw [Nat.testBit_two_pow, decide_eq_true_iff]
theorem sub_bit {v x : Nat} (h : x.testBit v = true) : Sub (2 ^ v) x := fun i hi => by
  rw [bit_one] at hi
  rw [← hi]
  exact h

/-- The least vertex of a set. -/
def low (x : Nat) : Nat := (bitsOf x).headD 0
theorem low_head {x n : Nat} (hx : x < 2 ^ n) (hn : n ≤ 8) (h : x ≠ 0) : ∃ t, bitsOf x = low x :: t := by
  have hp := size_pos hx hn h
  unfold size at hp
  unfold low
  cases hb : bitsOf x with
  | nil => rw [hb] at hp; simp at hp
  | cons a t => exact ⟨t, rfl⟩
theorem low_mem {x n : Nat} (hx : x < 2 ^ n) (hn : n ≤ 8) (h : x ≠ 0) : low x < n ∧ x.testBit (low x) = true := by
  obtain ⟨t, ht⟩ := low_head hx hn h
  refine (bitsOf_mem x n (low x) hx hn).mp ?_
  rw [ht]
  exact List.mem_cons_self

/-- x without y. -/
def minus (x y : Nat) : Nat := x &&& (2 ^ 64 - 1 - y)
theorem minus_bit (x y i : Nat) (hx : x < 2 ^ 62) (hy : y < 2 ^ 62) : (minus x y).testBit i = (x.testBit i && !y.testBit i) := by
  unfold minus
  rw [Nat.testBit_and, show 2 ^ 64 - 1 - y = 2 ^ 64 - (y + 1) by omega, Nat.testBit_two_pow_sub_succ (Nat.lt_of_lt_of_le hy (by decide))]
  by_cases h : i < 64
  · rw [decide_eq_true h, Bool.true_and]
  · rw [bit_none x 62 i hx (by omega), Bool.false_and, Bool.false_and]
theorem minus_sub (x y : Nat) : Sub (minus x y) x := fun i h => by
  unfold minus at h
  rw [Nat.testBit_and, Bool.and_eq_true] at h
  exact h.1
theorem minus_lt {x y n : Nat} (hx : x < 2 ^ n) : minus x y < 2 ^ n := (minus_sub x y).lt hx
theorem minus_all : ((List.range 256).all fun x => (List.range 256).all fun y => (y &&& x != y) || (minus x y == x - y)) = true := by decide +kernel
theorem minus_is (x y : Nat) (hx : x < 256) (h : Sub y x) : minus x y = x - y := by
  have hy : y < 256 := (h.lt (n := 8) hx)
  have h1 := List.all_eq_true.mp (List.all_eq_true.mp minus_all x (List.mem_range.mpr hx)) y (List.mem_range.mpr hy)
  rw [h.and] at h1
  simpa using h1

/-! ### what is linked -/
theorem fold_bit (l : List Int) (i : Nat) : ∀ (vs : List Nat) (a : Nat), (vs.foldl (fun a v => a ||| rn l v) a).testBit i = true ↔ a.testBit i = true ∨ ∃ v, v ∈ vs ∧ (rn l v).testBit i = true
  | [], a => by simp
  | v :: vs, a => by
    rw [List.foldl_cons, fold_bit l i vs, Nat.testBit_or, Bool.or_eq_true]
    constructor
    · rintro ((h | h) | ⟨u, h1, h2⟩)
      · exact .inl h
      · exact .inr ⟨v, List.mem_cons_self, h⟩
      · exact .inr ⟨u, List.mem_cons_of_mem _ h1, h2⟩
    · rintro (h | ⟨u, h1, h2⟩)
      · exact .inl (.inl h)
      · rcases List.mem_cons.mp h1 with rfl | h1
        · exact .inl (.inr h2)
        · exact .inr ⟨u, h1, h2⟩
theorem near_bit (l : List Int) (x i : Nat) : (near l x).testBit i = true ↔ x.testBit i = true ∨ ∃ v, v ∈ bitsOf x ∧ (rn l v).testBit i = true := fold_bit l i _ _
/-- One step within the set. -/
def grow (l : List Int) (set p : Nat) : Nat := near l p &&& set
theorem grow_set (l : List Int) (set p : Nat) : Sub (grow l set p) set := fun i h => by
  unfold grow at h
  rw [Nat.testBit_and, Bool.and_eq_true] at h
  exact h.2
theorem sub_grow (l : List Int) {set p : Nat} (h : Sub p set) : Sub p (grow l set p) := fun i hi => by
  unfold grow
  rw [Nat.testBit_and, h i hi, Bool.and_true]
  exact (near_bit l p i).mpr (.inl hi)
/-- So many steps. -/
def iterN (l : List Int) (set : Nat) : Nat → Nat → Nat
  | 0, p => p
  | k + 1, p => iterN l set k (grow l set p)
theorem iterN_fix (l : List Int) (set p : Nat) (h : grow l set p = p) : ∀ k, iterN l set k p = p
  | 0 => rfl
  | k + 1 => by
    unfold iterN
    rw [h]
    exact iterN_fix l set p h k
theorem iterN_sub (l : List Int) (set : Nat) : ∀ (k p : Nat), Sub p set → Sub p (iterN l set k p) ∧ Sub (iterN l set k p) set
  | 0, p, h => ⟨Sub.refl p, h⟩
  | k + 1, p, h => by
    have ih := iterN_sub l set k (grow l set p) (grow_set l set p)
    exact ⟨(sub_grow l h).trans ih.1, ih.2⟩
theorem grow_more {l : List Int} {set p n : Nat} (hset : set < 2 ^ n) (hn : n ≤ 8) (hp : Sub p set) (h : ¬ grow l set p = p) : size p < size (grow l set p) ∧ size (grow l set p) ≤ n :=
  ⟨size_strict (sub_grow l hp) ((grow_set l set p).lt hset) hn (fun e => h e.symm), size_le_n ((grow_set l set p).lt hset) hn⟩
theorem iterN_end {l : List Int} {set n : Nat} (hset : set < 2 ^ n) (hn : n ≤ 8) : ∀ (d p : Nat), Sub p set → n ≤ d + size p → grow l set (iterN l set d p) = iterN l set d p
  | 0, p, hp, hd => by
    by_cases h : grow l set p = p
    · exact h
    · have := grow_more hset hn hp h
      omega
  | d + 1, p, hp, hd => by
    by_cases h : grow l set p = p
    · rw [iterN_fix l set p h]
      exact h
    · have := grow_more hset hn hp h
      exact iterN_end hset hn d (grow l set p) (grow_set l set p) (by omega)
/-- What of the set is linked to the vertex. -/
def part (l : List Int) (n set v : Nat) : Nat := iterN l set n (2 ^ v)
theorem part_set (l : List Int) (n set v : Nat) (hv : set.testBit v = true) : Sub (part l n set v) set := (iterN_sub l set n (2 ^ v) (sub_bit hv)).2
theorem part_has (l : List Int) (n set v : Nat) (hv : set.testBit v = true) : (part l n set v).testBit v = true := (iterN_sub l set n (2 ^ v) (sub_bit hv)).1 v ((bit_one v v).mpr rfl)
theorem part_end {l : List Int} {n set v : Nat} (hset : set < 2 ^ n) (hn : n ≤ 8) (hv : set.testBit v = true) : grow l set (part l n set v) = part l n set v :=
  iterN_end hset hn n (2 ^ v) (sub_bit hv) (by omega)

/-- The linked parts of a set, behind those that are there. -/
def partsN (l : List Int) (n : Nat) : Nat → Nat → List Nat → List Nat
  | 0, _, out => out
  | d + 1, set, out => if set = 0 then out else partsN l n d (minus set (part l n set (low set))) (out ++ [part l n set (low set)])
theorem partsN_length (l : List Int) (n : Nat) : ∀ (d set : Nat) (out : List Nat), (partsN l n d set out).length ≤ out.length + d
  | 0, _, _ => Nat.le_refl _
  | d + 1, set, out => by
    unfold partsN
    split
    · omega
    · have := partsN_length l n d (minus set (part l n set (low set))) (out ++ [part l n set (low set)])
      simp at this
      omega
theorem rest_less {l : List Int} {n set : Nat} (hset : set < 2 ^ n) (hn : n ≤ 8) (h : set ≠ 0) : size (minus set (part l n set (low set))) < size set := by
  have hl := low_mem hset hn h
  have h256 := pow_le_256 n hn
  have hp := part_has l n set (low set) hl.2
  have hps := part_set l n set (low set) hl.2
  refine size_strict (minus_sub _ _) hset hn (fun e => ?_)
  have hb := minus_bit set (part l n set (low set)) (low set) (by omega) (by have := hps.lt hset; omega)
  rw [e, hl.2, hp] at hb
  cases hb
theorem ints_snoc (out : List Nat) (p : Nat) : ints (out ++ [p]) = ints out ++ [(p : Int)] := by simp [ints]

end Go.Proofs.YthfjphkhpfmdcaaGreatDoor.Pure
