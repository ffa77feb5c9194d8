/- A vertex with its neighbors, by the program; condition: a valid graph and a vertex of it. -/
import Derived.Test.YtfnlbakeefcmeaaDoorPOkN
import Derived.Test.YtfnlbakeefcmeaaDoorMCardFnCovers2
namespace Go.Proofs.YtfnlbakeefcmeaaDoor.Pure
open Go.RowKit Go.Proofs.YtfnlbakeefcmeaaDoor.Q Go.Proofs.YtfnlbakeefcmeaaDoorW.PrintWords Go.Proofs.YtfnlbakeefcmeaaDoorW.PrintLast Go.Proofs.YtfnlbakeefcmeaaDoorW.PrintMore

theorem stay_lt {s : Int} {l : List Int} {n v : Nat} (V : Valid s l n) (hv : v < n) : rn l v ||| 2 ^ v < 2 ^ n := or_lt n _ _ (V.lt v hv) (bit_lt n v hv)
theorem impl_stay {s : Int} {l : List Int} {n v : Nat} (V : Valid s l n) (hv : v < n) : impl_Graph_stay.f s l (v : Int) = some ((rn l v ||| 2 ^ v : Nat) : Int) := by
  unfold impl_Graph_stay.f impl_bit.f
  have hlen := V.len
  have hn := V.hi
  rw [if_pos (by omega), if_pos (by omega), if_pos (by omega), Option.bind_some, shl_one v (by omega), V.row _ hv, or_nat _ _ (small _ n (V.lt v hv) hn) (small _ n (bit_lt n v hv) hn)]

end Go.Proofs.YtfnlbakeefcmeaaDoor.Pure
