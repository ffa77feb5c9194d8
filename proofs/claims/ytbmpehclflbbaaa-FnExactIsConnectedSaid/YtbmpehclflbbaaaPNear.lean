/- What a set reaches, by the reference and by the program; condition: a valid graph and a set of it. -/
import Derived.Test.YtbmpehclflbbaaaPOk
import Derived.Test.YtbmpehclflbbaaaPListS
import Derived.Test.YtbmpehclflbbaaaQx17
import Derived.Test.YtbmpehclflbbaaaQx19
namespace Go.Proofs.Ytbmpehclflbbaaa.Pure
open Go.RowKit Go.Proofs.Ytbmpehclflbbaaa.Q Go.Proofs.YtbmpehclflbbaaaW.PrintWords Go.Proofs.YtbmpehclflbbaaaW.PrintLast Go.Proofs.YtbmpehclflbbaaaW.PrintMore

theorem spec_near_loop {s : Int} {l : List Int} {n : Nat} (V : Valid s l n) (vs : List Nat) (hv : ∀ v ∈ vs, v < n) (h8 : vs.length ≤ 8) :
    ∀ (d i a : Nat), i + d = vs.length → a < 2 ^ n → Ev (fun k => spec_l02Near.l0 k (a : Int) (ints vs) (vs.length : Int) (i : Int) s l) ((((vs.drop i).foldl (fun a v => a ||| rn l v) a : Nat)) : Int)
  | 0, i, a, hd, ha => by
    rw [List.drop_of_length_le (by omega)]
    refine Ev.step (f := fun _ => some (a : Int)) (fun k => ?_) (Ev.now _)
    simp only [spec_l02Near.l0]
    rw [if_neg (by omega)]
  | d + 1, i, a, hd, ha => by
    have hi : i < vs.length := by omega
    have hvi : vs[i] < n := hv _ (List.getElem_mem hi)
    have ih := spec_near_loop V vs hv h8 d (i + 1) (a ||| rn l vs[i]) (by omega) (or_lt n _ _ ha (V.lt _ hvi))
    rw [List.drop_eq_getElem_cons hi, List.foldl_cons]
    refine Ev.step (fun k => ?_) ih
    simp only [spec_l02Near.l0]
    have hlen := V.len
    rw [if_pos (by omega), if_pos (by omega), if_pos (by rw [ints_length]; omega), ints_at vs i hi, if_pos (by omega), if_pos (by omega), V.row _ hvi, or_nat a _ (small a n ha V.hi) (small _ n (V.lt _ hvi) V.hi), next i (by omega)]

theorem spec_near {s : Int} {l : List Int} {n x : Nat} (V : Valid s l n) (hx : x < 2 ^ n) : Ev (fun k => spec_l02Near.f k s l (x : Int)) ((near l x : Nat) : Int) := by
  unfold spec_l02Near.f
  have hx256 : x < 256 := Nat.lt_of_lt_of_le hx (pow_le_256 n V.hi)
  refine Ev.bind (spec_list x hx256) ?_
  rw [ints_length]
  have h := spec_near_loop V (bitsOf x) (fun v hv => ((bitsOf_mem x n v hx V.hi).mp hv).1) (bitsOf_length x) (bitsOf x).length 0 x (by omega) hx
  rw [List.drop_zero] at h
  exact h

theorem impl_around_loop {s : Int} {l : List Int} {n x : Nat} (V : Valid s l n) (hx : x < 2 ^ n) :
    ∀ (d i a : Nat), i + d = n → a < 2 ^ n → Ev (fun k => impl_Graph_around.l0 k (x : Int) (a : Int) l (n : Int) (i : Int)) ((((bitsFrom x i d).foldl (fun a v => a ||| rn l v) a : Nat)) : Int)
  | 0, i, a, hd, ha => by
    refine Ev.step (f := fun _ => some (a : Int)) (fun k => ?_) (Ev.now _)
    simp only [impl_Graph_around.l0]
    rw [if_neg (by omega)]
  | d + 1, i, a, hd, ha => by
    have hlen := V.len
    have hn := V.hi
    unfold bitsFrom
    cases hb : x.testBit i with
    | true =>
      have ih := impl_around_loop V hx d (i + 1) (a ||| rn l i) (by omega) (or_lt n _ _ ha (V.lt _ (by omega)))
      rw [if_pos rfl, List.foldl_cons]
      refine Ev.step (fun k => ?_) ih
      simp only [impl_Graph_around.l0]
      rw [if_pos (by omega), if_pos (by omega), if_pos (by omega), impl_has_is x i (small x n hx hn) (by omega), Option.bind_some, hb, if_pos rfl, V.row _ (by omega), or_nat a _ (small a n ha hn) (small _ n (V.lt _ (by omega)) hn), next i (by omega)]
    | false =>
      have ih := impl_around_loop V hx d (i + 1) a (by omega) ha
      rw [if_neg (by decide)]
      refine Ev.step (fun k => ?_) ih
      simp only [impl_Graph_around.l0]
      rw [if_pos (by omega), if_pos (by omega), if_pos (by omega), impl_has_is x i (small x n hx hn) (by omega), Option.bind_some, hb, if_neg (by decide), next i (by omega)]

theorem impl_near {s : Int} {l : List Int} {n x : Nat} (V : Valid s l n) (hx : x < 2 ^ n) : Ev (fun k => impl_Graph_around.f k s l (x : Int)) ((near l x : Nat) : Int) := by
  unfold impl_Graph_around.f near
  rw [bitsOf_eq x n hx V.hi, V.len]
  exact impl_around_loop V hx n 0 x (by omega) hx

end Go.Proofs.Ytbmpehclflbbaaa.Pure
