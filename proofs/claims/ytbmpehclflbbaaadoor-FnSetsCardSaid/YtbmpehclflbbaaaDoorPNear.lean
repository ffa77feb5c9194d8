/- What a set reaches, by the reference and by the program; condition: a valid graph and a set of it. -/
import Derived.Test.YtbmpehclflbbaaaDoorPOk
import Derived.Test.YtbmpehclflbbaaaDoorPlain
import Derived.Test.YtbmpehclflbbaaaDoorQx0
import Derived.Test.YtbmpehclflbbaaaDoorQx1
import Derived.Test.YtbmpehclflbbaaaDoorQx6
namespace Go.Proofs.YtbmpehclflbbaaaDoor.Pure
open Go.RowKit Go.Proofs.YtbmpehclflbbaaaDoor.Q Go.Proofs.YtbmpehclflbbaaaDoorW.PrintWords Go.Proofs.YtbmpehclflbbaaaDoorW.PrintLast Go.Proofs.YtbmpehclflbbaaaDoorW.PrintMore

theorem impl_around_loop {s : Int} {l : List Int} {n x : Nat} (V : Valid s l n) (hx : x < 2 ^ n) :
    ∀ (d i a : Nat), i + d = n → a < 2 ^ n → Ev (fun k => impl_Graph_around.l0 k (x : Int) (a : Int) l (n : Int) (i : Int)) ((((bitsFrom x i d).foldl (fun a v => a ||| rn l v) a : Nat)) : Int)
  | 0, i, a, hd, ha => by
    refine Ev.step (f := fun _ => some (a : Int)) (fun k => ?_) (Ev.now _)
    simp only [impl_Graph_around.l0]
    rw [if_neg (by omega)]
  | d + 1, i, a, hd, ha => by
    have hlen := V.len
    have hn := V.hi
    unfold bitsFrom
    cases hb : x.testBit i with
    | true =>
      have ih := impl_around_loop V hx d (i + 1) (a ||| rn l i) (by omega) (or_lt n _ _ ha (V.lt _ (by omega)))
      rw [if_pos rfl, List.foldl_cons]
      refine Ev.step (fun k => ?_) ih
      simp only [impl_Graph_around.l0]
      rw [if_pos (by omega), if_pos (by omega), if_pos (by omega), impl_has_is x i (small x n hx hn) (by omega), Option.bind_some, hb, if_pos rfl, V.row _ (by omega), or_nat a _ (small a n ha hn) (small _ n (V.lt _ (by omega)) hn), next i (by omega)]
    | false =>
      have ih := impl_around_loop V hx d (i + 1) a (by omega) ha
      rw [if_neg (by decide)]
      refine Ev.step (fun k => ?_) ih
      simp only [impl_Graph_around.l0]
      rw [if_pos (by omega), if_pos (by omega), if_pos (by omega), impl_has_is x i (small x n hx hn) (by omega), Option.bind_some, hb, if_neg (by decide), next i (by omega)]

theorem impl_near {s : Int} {l : List Int} {n x : Nat} (V : Valid s l n) (hx : x < 2 ^ n) : Ev (fun k => impl_Graph_around.f k s l (x : Int)) ((near l x : Nat) : Int) := by
  unfold impl_Graph_around.f near
  rw [bitsOf_eq x n hx V.hi, V.len]
  exact impl_around_loop V hx n 0 x (by omega) hx

end Go.Proofs.YtbmpehclflbbaaaDoor.Pure
