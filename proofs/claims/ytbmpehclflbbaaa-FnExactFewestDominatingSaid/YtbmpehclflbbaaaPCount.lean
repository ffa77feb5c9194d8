/- How many vertices a set has, by the reference and by the program; condition: a set of at most eight vertices. -/
import Derived.Test.YtbmpehclflbbaaaPListS
import Derived.Test.YtbmpehclflbbaaaQx8
import Derived.Test.YtbmpehclflbbaaaQx9
namespace Go.Proofs.Ytbmpehclflbbaaa.Pure
open Go.RowKit Go.Proofs.Ytbmpehclflbbaaa.Q Go.Proofs.YtbmpehclflbbaaaW.PrintWords Go.Proofs.YtbmpehclflbbaaaW.PrintLast Go.Proofs.YtbmpehclflbbaaaW.PrintMore

/-- How many vertices a set has. -/
def size (x : Nat) : Nat := (bitsOf x).length
theorem size_le (x : Nat) : size x ≤ 8 := bitsOf_length x
theorem spec_size (x : Nat) (hx : x < 256) : Ev (fun k => spec_l02Count.f k (x : Int)) ((size x : Nat) : Int) := by
  unfold spec_l02Count.f
  refine Ev.bind (spec_list x hx) ?_
  rw [ints_length]
  exact Ev.now _
theorem impl_size_all : ∀ x : Fin 256, impl_CountSet.f ((x.val : Nat) : Int) = some ((size x.val : Nat) : Int) := by decide +kernel
theorem impl_size (x : Nat) (hx : x < 256) : impl_CountSet.f (x : Int) = some ((size x : Nat) : Int) := impl_size_all ⟨x, hx⟩

end Go.Proofs.Ytbmpehclflbbaaa.Pure
