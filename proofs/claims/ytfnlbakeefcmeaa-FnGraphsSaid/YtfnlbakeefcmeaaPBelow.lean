/- A draw below n; condition: n from 1 to 256. -/
import Derived.Test.YtfnlbakeefcmeaaPMake
import Derived.Test.YtfnlbakeefcmeaaQx7
namespace Go.Proofs.Ytfnlbakeefcmeaa.Pure
open Go.RowKit Go.Proofs.Ytfnlbakeefcmeaa.Q Go.Proofs.YtfnlbakeefcmeaaW.PrintWords Go.Proofs.YtfnlbakeefcmeaaW.PrintLast Go.Proofs.YtfnlbakeefcmeaaW.PrintMore

theorem below_ok (l : List Int) (i h : Int) (n : Nat) (hl : l.length ≤ 2000000) (hi : StOk l i) (h1 : 1 ≤ n) (h2 : n ≤ 256) : ∃ (x : Nat) (i' h' : Int), spec_l01Below.f l i h (n : Int) = some ((x : Int), i', h') ∧ x < n ∧ StOk l i' := by
  obtain ⟨x, i', h', hb, hx, hs⟩ := byte_ok l i h hl hi
  unfold spec_l01Below.f
  rw [if_neg (by omega), if_pos (by omega), hb, Option.bind_some, if_neg (by omega)]
  have e : Int.tmod x (n : Int) = x % (n : Int) := Int.tmod_eq_emod_of_nonneg hx.1
  have hn0 : (n : Int) ≠ 0 := by omega
  have hp := Int.emod_nonneg x hn0
  have hq := Int.emod_lt_of_pos x (show (0 : Int) < (n : Int) by omega)
  refine ⟨(x % (n : Int)).toNat, i', h', ?_, by omega, hs⟩
  simp only [e]
  rw [Int.toNat_of_nonneg hp]

end Go.Proofs.Ytfnlbakeefcmeaa.Pure
