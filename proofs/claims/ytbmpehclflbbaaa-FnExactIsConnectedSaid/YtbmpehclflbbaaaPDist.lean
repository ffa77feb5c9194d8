/- How far all vertices are from one, by the program's table; condition: a valid graph and a vertex of it. -/
import Derived.Test.YtbmpehclflbbaaaPNear
import Derived.Test.YtbmpehclflbbaaaQx27
import Derived.Test.YtbmpehclflbbaaaXRep
namespace Go.Proofs.Ytbmpehclflbbaaa.Pure
open Go.RowKit Go.Proofs.Ytbmpehclflbbaaa.Q Go.Proofs.YtbmpehclflbbaaaW.PrintWords Go.Proofs.YtbmpehclflbbaaaW.PrintLast Go.Proofs.YtbmpehclflbbaaaW.PrintMore

/-- What is reached from the vertex by so many steps. -/
def ball (l : List Int) (v : Nat) : Nat → Nat
  | 0 => 2 ^ v
  | k + 1 => near l (ball l v k)
theorem ball_lt {s : Int} {l : List Int} {n v : Nat} (V : Valid s l n) (hv : v < n) : ∀ k, ball l v k < 2 ^ n
  | 0 => bit_lt n v hv
  | k + 1 => near_lt V (ball_lt V hv k)
theorem sub_near (l : List Int) (x : Nat) : Sub x (near l x) := fun i hi => (near_bit l x i).mpr (.inl hi)
theorem ball_more (l : List Int) (v k : Nat) : ∀ d, Sub (ball l v k) (ball l v (k + d))
  | 0 => Sub.refl _
  | d + 1 => (ball_more l v k d).trans (sub_near l _)
theorem ball_stays {l : List Int} {v k : Nat} (h : near l (ball l v k) = ball l v k) : ∀ d, ball l v (k + d) = ball l v k
  | 0 => rfl
  | d + 1 => by
    show near l (ball l v (k + d)) = _
    rw [ball_stays h d, h]
/-- The first of m places at which it is so; -1 if none. -/
def firstTo (p : Nat → Bool) : Nat → Int
  | 0 => -1
  | m + 1 => if 0 ≤ firstTo p m then firstTo p m else if p m = true then (m : Int) else -1
theorem firstTo_none (p : Nat → Bool) : ∀ m, (∀ j, j < m → p j = false) → firstTo p m = -1
  | 0, _ => rfl
  | m + 1, h => by
    unfold firstTo
    rw [firstTo_none p m (fun j hj => h j (by omega)), if_neg (by decide), h m (by omega), if_neg (by decide)]
theorem firstTo_some (p : Nat → Bool) (i : Nat) (hi : p i = true) (h : ∀ j, j < i → p j = false) : ∀ d, firstTo p (i + 1 + d) = (i : Int)
  | 0 => by
    show firstTo p (i + 1) = _
    unfold firstTo
    rw [firstTo_none p i h, if_neg (by decide), if_pos hi]
  | d + 1 => by
    show firstTo p ((i + 1 + d) + 1) = _
    unfold firstTo
    rw [firstTo_some p i hi h d, if_pos (by omega)]
theorem first_or (p : Nat → Bool) : ∀ m, (∀ j, j < m → p j = false) ∨ ∃ i, i < m ∧ p i = true ∧ ∀ j, j < i → p j = false
  | 0 => .inl (fun j hj => by omega)
  | m + 1 => by
    rcases first_or p m with h | ⟨i, h1, h2, h3⟩
    · cases hm : p m with
      | true => exact .inr ⟨m, by omega, hm, h⟩
      | false =>
        refine .inl (fun j hj => ?_)
        by_cases e : j = m
        · rw [e]; exact hm
        · exact h j (by omega)
    · exact .inr ⟨i, by omega, h2, h3⟩
theorem firstTo_ge (p : Nat → Bool) (m : Nat) : -1 ≤ firstTo p m := by
  rcases first_or p m with h | ⟨i, h1, h2, h3⟩
  · rw [firstTo_none p m h]; decide
  · obtain ⟨d, rfl⟩ : ∃ d, m = i + 1 + d := ⟨m - (i + 1), by omega⟩
    rw [firstTo_some p i h2 h3 d]
    omega
/-- The table while the places below i are brought from k to k + 1. -/
def mixT (p : Nat → Nat → Bool) (n k i : Nat) : List Int := (List.range n).map fun w => firstTo (p w) (if w < i then k + 1 else k)
theorem mixT_length (p : Nat → Nat → Bool) (n k i : Nat) : (mixT p n k i).length = n := by simp [mixT]
theorem mixT_at (p : Nat → Nat → Bool) (n k i j : Nat) (h : j < n) : rd (mixT p n k i) (j : Int) = firstTo (p j) (if j < i then k + 1 else k) := by
  unfold rd mixT
  rw [Int.toNat_natCast, List.getD_eq_getElem?_getD, List.getElem?_map, List.getElem?_range h]
  rfl
theorem mixT_end (p : Nat → Nat → Bool) (n k : Nat) : mixT p n k n = mixT p n (k + 1) 0 := by
  unfold mixT
  refine List.map_congr_left (fun w hw => ?_)
  rw [if_pos (List.mem_range.mp hw), if_neg (by omega)]
theorem mixT_same (p : Nat → Nat → Bool) (n k i : Nat) (h : firstTo (p i) (k + 1) = firstTo (p i) k) : mixT p n k i = mixT p n k (i + 1) := by
  unfold mixT
  refine List.map_congr_left (fun w _ => ?_)
  by_cases e : w = i
  · subst e
    rw [if_neg (by omega), if_pos (by omega), h]
  · by_cases h1 : w < i
    · rw [if_pos h1, if_pos (by omega)]
    · rw [if_neg h1, if_neg (by omega)]
theorem mixT_set (p : Nat → Nat → Bool) (n k i : Nat) (h : i < n) : (mixT p n k i).set i (firstTo (p i) (k + 1)) = mixT p n k (i + 1) := by
  apply List.ext_getElem?
  intro j
  by_cases e : i = j
  · subst e
    rw [List.getElem?_set_self (by rw [mixT_length]; exact h)]
    unfold mixT
    rw [List.getElem?_map, List.getElem?_range h]
    simp
  · rw [List.getElem?_set_ne e]
    unfold mixT
    rw [List.getElem?_map, List.getElem?_map]
    rcases Nat.lt_or_ge j n with hj | hj
    · rw [List.getElem?_range hj]
      simp only [Option.map_some]
      by_cases h1 : j < i
      · rw [if_pos h1, if_pos (by omega)]
      · rw [if_neg h1, if_neg (by omega)]
    · rw [List.getElem?_eq_none (by simpa using hj)]
      rfl

theorem dist_in {s : Int} {l : List Int} {n v : Nat} (V : Valid s l n) (hv : v < n) (k : Nat) (hk : k ≤ 100) (R : List Int)
    (hR : Ev (fun j => (impl_Graph_around.f j s l ((ball l v k : Nat) : Int)).bind fun t311 => (if t311 = ((ball l v k : Nat) : Int) then (some (mixT (fun w j => (ball l v j).testBit w) n k n)) else (impl_Graph_distances.l0 j (mixT (fun w j => (ball l v j).testBit w) n k n) t311 ((k + 1 : Nat) : Int) s l))) R) :
    ∀ (d i : Nat), i + d = n → Ev (fun j => impl_Graph_distances.l1 j (mixT (fun w j => (ball l v j).testBit w) n k i) ((ball l v k : Nat) : Int) (k : Int) (n : Int) (i : Int) s l) R
  | 0, i, hd => by
    obtain rfl : i = n := by omega
    have hn := V.hi
    refine Ev.step (fun j => ?_) hR
    simp only [impl_Graph_distances.l1]
    rw [if_neg (by omega), next k (by omega)]
  | d + 1, i, hd => by
    have hn := V.hi
    have hi : i < n := by omega
    have hb := ball_lt V hv k
    have ih := dist_in V hv k hk R hR d (i + 1) (by omega)
    have hat := mixT_at (fun w j => (ball l v j).testBit w) n k i i hi
    rw [if_neg (by omega)] at hat
    have hlen := mixT_length (fun w j => (ball l v j).testBit w) n k i
    have hge := firstTo_ge (fun j => (ball l v j).testBit i) k
    have hst : firstTo (fun j => (ball l v j).testBit i) (k + 1) = if 0 ≤ firstTo (fun j => (ball l v j).testBit i) k then firstTo (fun j => (ball l v j).testBit i) k else if (ball l v k).testBit i = true then (k : Int) else -1 := rfl
    by_cases h0 : firstTo (fun j => (ball l v j).testBit i) k < 0
    · rw [if_neg (by omega)] at hst
      cases hbit : (ball l v k).testBit i with
      | true =>
        rw [hbit, if_pos rfl] at hst
        have hset := mixT_set (fun w j => (ball l v j).testBit w) n k i hi
        rw [hst] at hset
        refine Ev.step (fun j => ?_) ih
        simp only [impl_Graph_distances.l1]
        rw [if_pos (by omega), if_pos (by omega), if_pos (by omega), hat, if_pos h0, impl_has_is _ i (small _ n hb hn) (by omega), Option.bind_some, hbit, if_pos rfl, Int.toNat_natCast, hset, next i (by omega)]
      | false =>
        rw [hbit, if_neg (by decide)] at hst
        have hsame := mixT_same (fun w j => (ball l v j).testBit w) n k i (hst.trans (by omega))
        rw [← hsame] at ih
        refine Ev.step (fun j => ?_) ih
        simp only [impl_Graph_distances.l1]
        rw [if_pos (by omega), if_pos (by omega), if_pos (by omega), hat, if_pos h0, impl_has_is _ i (small _ n hb hn) (by omega), Option.bind_some, hbit, if_neg (by decide), next i (by omega)]
    · rw [if_pos (by omega)] at hst
      have hsame := mixT_same (fun w j => (ball l v j).testBit w) n k i hst
      rw [← hsame] at ih
      refine Ev.step (fun j => ?_) ih
      simp only [impl_Graph_distances.l1]
      rw [if_pos (by omega), if_pos (by omega), if_pos (by omega), hat, if_neg h0, next i (by omega)]

theorem dist_out {s : Int} {l : List Int} {n v : Nat} (V : Valid s l n) (hv : v < n) :
    ∀ (d k : Nat), n ≤ d + size (ball l v k) → k + 1 ≤ size (ball l v k) → ∃ K, K < n ∧ near l (ball l v K) = ball l v K ∧ Ev (fun j => impl_Graph_distances.l0 j (mixT (fun w j => (ball l v j).testBit w) n k 0) ((ball l v k : Nat) : Int) (k : Int) s l) (mixT (fun w j => (ball l v j).testBit w) n (K + 1) 0)
  | d, k, hd, hk => by
    have hn := V.hi
    have hb := ball_lt V hv k
    have hsz := size_le_n hb hn
    by_cases h : near l (ball l v k) = ball l v k
    · refine ⟨k, by omega, h, ?_⟩
      have hin := dist_in V hv k (by omega) (mixT (fun w j => (ball l v j).testBit w) n k n) (by
        refine Ev.bind (impl_near V hb) ?_
        rw [h]
        simp only [if_true]
        exact Ev.now _) n 0 (by omega)
      rw [mixT_end] at hin
      refine Ev.step (fun j => ?_) hin
      simp only [impl_Graph_distances.l0]
      rw [mixT_length]
      rfl
    · cases d with
      | zero =>
        have := size_strict (sub_near l (ball l v k)) (near_lt V hb) hn (fun e => h e.symm)
        have := size_le_n (near_lt V hb) hn
        omega
      | succ d =>
        have hs := size_strict (sub_near l (ball l v k)) (near_lt V hb) hn (fun e => h e.symm)
        have hs' : size (ball l v k) < size (ball l v (k + 1)) := hs
        obtain ⟨K, h1, h2, h3⟩ := dist_out V hv d (k + 1) (by omega) (by omega)
        refine ⟨K, h1, h2, ?_⟩
        have hin := dist_in V hv k (by omega) (mixT (fun w j => (ball l v j).testBit w) n (K + 1) 0) (by
          refine Ev.bind (impl_near V hb) ?_
          simp only [show ¬ ((near l (ball l v k) : Nat) : Int) = ((ball l v k : Nat) : Int) by omega, if_false]
          rw [mixT_end]
          exact h3) n 0 (by omega)
        refine Ev.step (fun j => ?_) hin
        simp only [impl_Graph_distances.l0]
        rw [mixT_length]
        rfl
theorem one_size (n v : Nat) (hn : n ≤ 8) (hv : v < n) : 1 ≤ size (2 ^ v) := size_pos (bit_lt n v hv) hn (Nat.pos_iff_ne_zero.mp (Nat.two_pow_pos v))
/-- The table that the program makes: how far each vertex is. -/
theorem impl_dist {s : Int} {l : List Int} {n v : Nat} (V : Valid s l n) (hv : v < n) : ∃ K, K < n ∧ near l (ball l v K) = ball l v K ∧ Ev (fun j => impl_Graph_distances.f j s l (v : Int)) (mixT (fun w j => (ball l v j).testBit w) n (K + 1) 0) := by
  have hn := V.hi
  have hlo := V.lo
  have hs := V.size
  obtain ⟨K, h1, h2, h3⟩ := dist_out V hv n 0 (by omega) (one_size n v hn hv)
  refine ⟨K, h1, h2, ?_⟩
  refine Ev.congr (fun j => ?_) h3
  unfold impl_Graph_distances.f slices_Repeat_int_int.f impl_bit.f
  rw [if_pos ⟨rfl, by omega, by omega⟩, Option.bind_some, if_pos (by omega), Option.bind_some, shl_one v (by omega), hs, Int.toNat_natCast]
  have e : List.replicate n (([-1] : List Int).getD 0 0) = mixT (fun w j => (ball l v j).testBit w) n 0 0 := by
    unfold mixT
    apply List.ext_getElem?
    intro j
    rw [List.getElem?_replicate, List.getElem?_map]
    by_cases hj : j < n
    · rw [if_pos hj, List.getElem?_range hj]
      rfl
    · rw [if_neg hj, List.getElem?_eq_none (by simpa using hj)]
      rfl
  rw [e]
  rfl
/-- Behind the last step nothing new is reached. -/
theorem first_all {l : List Int} {v K n : Nat} (hK : K < n) (h : near l (ball l v K) = ball l v K) (w : Nat) : firstTo (fun j => (ball l v j).testBit w) (K + 1) = firstTo (fun j => (ball l v j).testBit w) n := by
  rcases first_or (fun j => (ball l v j).testBit w) (K + 1) with h1 | ⟨i, h1, h2, h3⟩
  · rw [firstTo_none _ _ h1, firstTo_none]
    intro j hj
    rcases Nat.lt_or_ge j (K + 1) with h4 | h4
    · exact h1 j h4
    · obtain ⟨d, rfl⟩ : ∃ d, j = K + d := ⟨j - K, by omega⟩
      rw [ball_stays h d]
      exact h1 K (by omega)
  · obtain ⟨d, hd⟩ : ∃ d, K + 1 = i + 1 + d := ⟨K - i, by omega⟩
    obtain ⟨e, he⟩ : ∃ e, n = i + 1 + e := ⟨n - (i + 1), by omega⟩
    rw [hd, he, firstTo_some _ i h2 h3 d, firstTo_some _ i h2 h3 e]

end Go.Proofs.Ytbmpehclflbbaaa.Pure
