/- The linked part of a set and all its linked parts, by the reference and by the program; condition: a valid graph and a set of it. -/
import Derived.Test.YtbmpehclflbbaaaDoorPNear
import Derived.Test.YtbmpehclflbbaaaDoorQx6
import Derived.Test.YtbmpehclflbbaaaDoorQx0
import Derived.Test.YtbmpehclflbbaaaDoorQx1
import Derived.Test.YtbmpehclflbbaaaDoorQx22
namespace Go.Proofs.YtbmpehclflbbaaaDoor.Pure
open Go.RowKit Go.Proofs.YtbmpehclflbbaaaDoor.Q Go.Proofs.YtbmpehclflbbaaaDoorW.PrintWords Go.Proofs.YtbmpehclflbbaaaDoorW.PrintLast Go.Proofs.YtbmpehclflbbaaaDoorW.PrintMore

theorem impl_part_loop {s : Int} {l : List Int} {n set : Nat} (V : Valid s l n) (hset : set < 2 ^ n) :
    ∀ (d p : Nat), Sub p set → n ≤ d + size p → Ev (fun k => impl_Graph_part.l0 k (set : Int) (p : Int) s l) ((iterN l set d p : Nat) : Int)
  | d, p, hp, hd => by
    have hn := V.hi
    have hpl := hp.lt hset
    have hnl := near_lt V hpl
    have e : Go.bits .and .i64 ((near l p : Nat) : Int) (set : Int) = ((grow l set p : Nat) : Int) := and_nat _ _ (small _ n hnl hn) (small _ n hset hn)
    by_cases h : grow l set p = p
    · rw [iterN_fix l set p h]
      refine Ev.step (fun k => by simp only [impl_Graph_part.l0]; rfl) ?_
      refine Ev.bind (impl_near V hpl) ?_
      rw [e, h]
      simp only [if_true]
      exact Ev.now _
    · cases d with
      | zero =>
        have := grow_more hset hn hp h
        omega
      | succ d =>
        have hm := grow_more hset hn hp h
        have ih := impl_part_loop V hset d (grow l set p) (grow_set l set p) (by omega)
        refine Ev.step (fun k => by simp only [impl_Graph_part.l0]; rfl) ?_
        refine Ev.bind (impl_near V hpl) ?_
        rw [e]
        simp only [show ¬ ((grow l set p : Nat) : Int) = (p : Int) by omega, if_false]
        exact ih
theorem impl_part_is {s : Int} {l : List Int} {n set v : Nat} (V : Valid s l n) (hset : set < 2 ^ n) (hv : set.testBit v = true) : Ev (fun k => impl_Graph_part.f k s l (set : Int) (v : Int)) ((part l n set v : Nat) : Int) := by
  have hvn := bit_below hset hv
  have hn := V.hi
  unfold impl_Graph_part.f impl_bit.f
  simp only [show (0 : Int) ≤ (v : Int) by omega, if_true, Option.bind_some]
  rw [shl_one v (by omega)]
  exact impl_part_loop V hset n (2 ^ v) (sub_bit hv) (by omega)
theorem impl_least_all : ∀ x : Fin 256, x.val ≠ 0 → impl_least.f ((x.val : Nat) : Int) = some ((low x.val : Nat) : Int) := by decide +kernel
theorem impl_least_is (x : Nat) (hx : x < 256) (h : x ≠ 0) : impl_least.f (x : Int) = some ((low x : Nat) : Int) := impl_least_all ⟨x, hx⟩ h
end Go.Proofs.YtbmpehclflbbaaaDoor.Pure
