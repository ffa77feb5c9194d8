/- Whether a number is a vertex, by the reference and by the program; no condition. -/
import Derived.Test.YtfnlbakeefcmeaaPOk
import Derived.Test.YtfnlbakeefcmeaaQx10
namespace Go.Proofs.Ytfnlbakeefcmeaa.Pure
open Go.RowKit Go.Proofs.Ytfnlbakeefcmeaa.Q Go.Proofs.YtfnlbakeefcmeaaW.PrintWords Go.Proofs.YtfnlbakeefcmeaaW.PrintLast Go.Proofs.YtfnlbakeefcmeaaW.PrintMore

/-- The number is a vertex of a graph of that size. -/
def vB (s x : Int) : Bool := decide (0 ≤ x) && decide (x < s)
theorem vB_iff (n : Nat) (x : Int) : vB (n : Int) x = true ↔ ∃ v : Nat, x = (v : Int) ∧ v < n := by
  unfold vB
  rw [Bool.and_eq_true, decide_eq_true_eq, decide_eq_true_eq]
  constructor
  · rintro ⟨h1, h2⟩
    exact ⟨x.toNat, by omega, by omega⟩
  · rintro ⟨v, rfl, h⟩
    exact ⟨by omega, by omega⟩
theorem vertexIs_eq (n : Nat) (h : n ≤ 8) (x : Int) : vertexIs (n : Int) x = vB (n : Int) x := by
  unfold vertexIs vB
  rw [wrap_close ((n : Int) - 1) (by omega) (by omega)]
  congr 1
  exact decide_eq_decide.mpr (by omega)
theorem impl_hold1 (s : Int) (l : List Int) (x : Int) : Ev (fun k => impl_Graph_hold.f k s l [x]) (okB s l && vB s x) := by
  unfold impl_Graph_hold.f
  refine Ev.bind (impl_ok s l) ?_
  cases h : okB s l with
  | false => exact Ev.now false
  | true =>
    have V := (okB_iff s l).mp h
    have e := vertexIs_eq l.length V.hi
    simp only [if_true, Bool.true_and, impl_Graph_isVertex.f, List.length_cons, List.length_nil, show (0 + 1 ≤ 1000) by decide, Option.bind_some, List.all_cons, List.all_nil, Bool.and_true]
    rw [V.size, e]
    exact Ev.now _
theorem impl_hold2 (s : Int) (l : List Int) (x y : Int) : Ev (fun k => impl_Graph_hold.f k s l [x, y]) (okB s l && (vB s x && vB s y)) := by
  unfold impl_Graph_hold.f
  refine Ev.bind (impl_ok s l) ?_
  cases h : okB s l with
  | false => exact Ev.now false
  | true =>
    have V := (okB_iff s l).mp h
    have e := vertexIs_eq l.length V.hi
    simp only [if_true, Bool.true_and, impl_Graph_isVertex.f, List.length_cons, List.length_nil, show (0 + 1 + 1 ≤ 1000) by decide, Option.bind_some, List.all_cons, List.all_nil, Bool.and_true]
    rw [V.size, e, e]
    exact Ev.now _

end Go.Proofs.Ytfnlbakeefcmeaa.Pure
