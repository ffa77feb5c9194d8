/- An edge more in a valid graph, by the reference and by the program; condition: two vertices that differ. -/
import Derived.Test.YthfjphkhpfmdcaaGreatDoorPOkN
import Derived.Test.YthfjphkhpfmdcaaGreatDoorQx6N
import Derived.Test.YthfjphkhpfmdcaaGreatDoorQx13N
namespace Go.Proofs.YthfjphkhpfmdcaaGreatDoor.Pure
open Go.RowKit Go.Proofs.YthfjphkhpfmdcaaGreatDoor.Q Go.Proofs.YthfjphkhpfmdcaaGreatDoorW.PrintWords Go.Proofs.YthfjphkhpfmdcaaGreatDoorW.PrintLast Go.Proofs.YthfjphkhpfmdcaaGreatDoorW.PrintMore

theorem rd_same (l : List Int) (i : Nat) (x : Int) (h : i < l.length) : rd (l.set i x) (i : Int) = x := by
  unfold rd
  rw [Int.toNat_natCast, List.getD_eq_getElem?_getD, List.getElem?_set_self h]
  rfl
theorem rd_other (l : List Int) (i j : Nat) (x : Int) (h : i ≠ j) : rd (l.set i x) (j : Int) = rd l (j : Int) := by
  unfold rd
  rw [Int.toNat_natCast, List.getD_eq_getElem?_getD, List.getElem?_set_ne h, List.getD_eq_getElem?_getD]
theorem rn_of (l : List Int) (v x : Nat) (h : rd l (v : Int) = (x : Int)) : rn l v = x := by
  unfold rn
  rw [h, Int.toNat_natCast]
/-- An edge more: still a valid graph. -/
theorem valid_join {s : Int} {l : List Int} {n v w : Nat} (V : Valid s l n) (hv : v < n) (hw : w < n) (hvw : v ≠ w) :
    ∃ l', spec_l02Join.f s l (v : Int) (w : Int) = some l' ∧ Valid s l' n ∧ ∀ u, u < n → ∀ i, (rn l' u).testBit i = ((rn l u).testBit i || ((v == u && w == i) || (w == u && v == i))) := by
  have hlen := V.len
  have hn := V.hi
  have hA : Go.bits .or .i64 (rd l (v : Int)) (shl .i64 1 (w : Int)) = ((rn l v ||| 2 ^ w : Nat) : Int) := by
    rw [shl_one w (by omega), V.row v hv, or_nat _ _ (small _ n (V.lt v hv) hn) (small _ n (bit_lt n w hw) hn)]
  have hB : Go.bits .or .i64 (rd (l.set v ((rn l v ||| 2 ^ w : Nat) : Int)) (w : Int)) (shl .i64 1 (v : Int)) = ((rn l w ||| 2 ^ v : Nat) : Int) := by
    rw [shl_one v (by omega), rd_other l v w _ hvw, V.row w hw, or_nat _ _ (small _ n (V.lt w hw) hn) (small _ n (bit_lt n v hv) hn)]
  refine ⟨(l.set v ((rn l v ||| 2 ^ w : Nat) : Int)).set w ((rn l w ||| 2 ^ v : Nat) : Int), ?_, ?_⟩
  · unfold spec_l02Join.f
    rw [if_pos (by omega), if_pos (by omega), if_pos (by omega), Option.bind_some, if_pos (by omega), Int.toNat_natCast, Int.toNat_natCast, hA, hB]
  · have hrd : ∀ u, u < n → rd ((l.set v ((rn l v ||| 2 ^ w : Nat) : Int)).set w ((rn l w ||| 2 ^ v : Nat) : Int)) (u : Int) = ((if w = u then rn l w ||| 2 ^ v else if v = u then rn l v ||| 2 ^ w else rn l u : Nat) : Int) := by
      intro u hu
      by_cases h1 : w = u
      · subst h1
        rw [if_pos rfl, rd_same _ _ _ (by rw [List.length_set]; omega)]
      · rw [if_neg h1, rd_other _ _ _ _ h1]
        by_cases h2 : v = u
        · subst h2
          rw [if_pos rfl, rd_same _ _ _ (by omega)]
        · rw [if_neg h2, rd_other _ _ _ _ h2, V.row u hu]
    have hl' : ((l.set v ((rn l v ||| 2 ^ w : Nat) : Int)).set w ((rn l w ||| 2 ^ v : Nat) : Int)).length = n := by rw [List.length_set, List.length_set, hlen]
    generalize (l.set v ((rn l v ||| 2 ^ w : Nat) : Int)).set w ((rn l w ||| 2 ^ v : Nat) : Int) = l' at hrd hl' ⊢
    have hrn : ∀ u, u < n → rn l' u = if w = u then rn l w ||| 2 ^ v else if v = u then rn l v ||| 2 ^ w else rn l u := fun u hu => rn_of l' u _ (hrd u hu)
    have hbit : ∀ u, u < n → ∀ i, (rn l' u).testBit i = ((rn l u).testBit i || ((v == u && w == i) || (w == u && v == i))) := by
      intro u hu i
      rw [hrn u hu]
      by_cases h1 : w = u
      · subst h1
        have h2 : (v == w) = false := by simpa using hvw
        rw [if_pos rfl, Nat.testBit_or, Nat.testBit_two_pow, h2]
        simp
        rfl
      · rw [if_neg h1]
        have h1b : (w == u) = false := by simpa using h1
        by_cases h2 : v = u
        · subst h2
          rw [if_pos rfl, Nat.testBit_or, Nat.testBit_two_pow, h1b]
          simp
          rfl
        · rw [if_neg h2]
          have h2b : (v == u) = false := by simpa using h2
          rw [h1b, h2b]
          simp
    refine ⟨⟨V.size, V.lo, V.hi, ?_, fun u hu => by rw [hrn u hu]; exact hrd u hu, fun u hu => ?_, fun u hu => ?_, fun u i hu hi => ?_⟩, hbit⟩
    · exact hl'
    · rw [hrn u hu]
      split
      · exact or_lt n _ _ (V.lt w hw) (bit_lt n v hv)
      · split
        · exact or_lt n _ _ (V.lt v hv) (bit_lt n w hw)
        · exact V.lt u hu
    · rw [hbit u hu, V.irr u hu]
      by_cases h1 : w = u
      · subst h1
        have h2 : (v == w) = false := by simpa using hvw
        rw [h2]
        simp
      · have h1b : (w == u) = false := by simpa using h1
        rw [h1b]
        simp
    · rw [hbit u hu, hbit i hi, V.sym u i hu hi]
      cases (rn l i).testBit u <;> cases (v == u) <;> cases (w == i) <;> cases (w == u) <;> cases (v == i) <;> rfl
theorem rd_zero (n : Nat) (v : Nat) : rd (List.replicate n 0) (v : Int) = 0 := by
  unfold rd
  rw [Int.toNat_natCast, List.getD_eq_getElem?_getD, List.getElem?_replicate]
  split <;> rfl
theorem valid_empty (n : Nat) (h1 : 1 ≤ n) (h8 : n ≤ 8) : Valid (n : Int) (List.replicate n 0) n := by
  have hz : ∀ v, rn (List.replicate n 0) v = 0 := fun v => rn_of _ v 0 (rd_zero n v)
  refine ⟨rfl, h1, h8, List.length_replicate, fun v _ => by rw [hz, rd_zero]; rfl, fun v _ => by rw [hz]; exact Nat.two_pow_pos n, fun v _ => by rw [hz, Nat.zero_testBit], fun v w _ _ => by rw [hz, hz, Nat.zero_testBit, Nat.zero_testBit]⟩
/-- The rows with an edge between w and u. -/
def jn (g : List Int) (w u : Nat) : List Int := (g.set w (Go.bits .or .i64 (rd g (w : Int)) (shl .i64 1 (u : Int)))).set u (Go.bits .or .i64 (rd g (u : Int)) (shl .i64 1 (w : Int)))
theorem rd_else (l : List Int) (i j : Nat) (x : Int) (h : i ≠ j) : rd (l.set i x) (j : Int) = rd l (j : Int) := by
  unfold rd
  rw [Int.toNat_natCast, List.getD_eq_getElem?_getD, List.getElem?_set_ne h, List.getD_eq_getElem?_getD]
theorem spec_jn (s : Int) (g : List Int) (w u : Nat) (hw : w < g.length) (hu : u < g.length) (h : w ≠ u) : spec_l02Join.f s g (w : Int) (u : Int) = some (jn g w u) := by
  unfold spec_l02Join.f jn
  rw [if_pos (by omega), if_pos (by omega), if_pos (by omega), Option.bind_some, if_pos (by omega), Int.toNat_natCast, Int.toNat_natCast, rd_else g w u _ h]
theorem impl_jn (s : Int) (g : List Int) (w u : Nat) (hw : w < g.length) (hu : u < g.length) (h : w ≠ u) : impl_Graph_join.f s g (u : Int) (w : Int) = some (jn g w u) := by
  unfold impl_Graph_join.f jn impl_bit.f
  rw [if_pos (by omega), if_pos (by omega), if_pos (by omega), Option.bind_some, Option.bind_some, if_pos (by omega), if_pos (by omega), if_pos (by omega), Option.bind_some, Int.toNat_natCast, Int.toNat_natCast, rd_else g u w _ (Ne.symm h), List.set_comm _ _ (Ne.symm h)]
theorem jn_comm (g : List Int) (w u : Nat) (h : w ≠ u) : jn g w u = jn g u w := by
  unfold jn
  rw [List.set_comm _ _ h]
theorem join_both {s : Int} {l : List Int} {n v w : Nat} (V : Valid s l n) (hv : v < n) (hw : w < n) (hvw : v ≠ w) :
    ∃ l', Valid s l' n ∧ spec_l02Join.f s l (v : Int) (w : Int) = some l' ∧ impl_Graph_join.f s l (v : Int) (w : Int) = some l' := by
  have hlen := V.len
  obtain ⟨l', h1, h2, _⟩ := valid_join V hv hw hvw
  refine ⟨l', h2, h1, ?_⟩
  rw [spec_jn s l v w (by omega) (by omega) hvw] at h1
  rw [impl_jn s l w v (by omega) (by omega) (Ne.symm hvw), ← h1, jn_comm l w v (Ne.symm hvw)]

end Go.Proofs.YthfjphkhpfmdcaaGreatDoor.Pure
