/- Whether no two of a set are neighbors, by the reference and by the program; condition: a valid graph and a set of it. -/
import Derived.Test.YtfnlbakeefcmeaaDoorPOkN
import Derived.Test.YtfnlbakeefcmeaaDoorPlain
import Derived.Test.YtfnlbakeefcmeaaDoorMCardFnCovers0
import Derived.Test.YtfnlbakeefcmeaaDoorMCardFnCovers2
import Derived.Test.YtfnlbakeefcmeaaDoorPListIN
import Derived.Test.YtfnlbakeefcmeaaDoorMCardFnCovers1
namespace Go.Proofs.YtfnlbakeefcmeaaDoor.Pure
open Go.RowKit Go.Proofs.YtfnlbakeefcmeaaDoor.Q Go.Proofs.YtfnlbakeefcmeaaDoorW.PrintWords Go.Proofs.YtfnlbakeefcmeaaDoorW.PrintLast Go.Proofs.YtfnlbakeefcmeaaDoorW.PrintMore

theorem impl_free_loop {s : Int} {l : List Int} {n x : Nat} (V : Valid s l n) (hx : x < 2 ^ n) (vs : List Nat) (hv : ∀ v ∈ vs, v < n) (h8 : vs.length ≤ 8) :
    ∀ (d i : Nat), i + d = vs.length → Ev (fun k => impl_Graph_areApart.l0 k (x : Int) (ints vs) (vs.length : Int) (i : Int) s l) ((vs.drop i).all fun v => rn l v &&& x == 0)
  | 0, i, hd => by
    rw [List.drop_of_length_le (by omega)]
    refine Ev.step (f := fun _ => some true) (fun k => ?_) (Ev.now _)
    simp only [impl_Graph_areApart.l0]
    rw [if_neg (by omega)]
  | d + 1, i, hd => by
    have hi : i < vs.length := by omega
    have hvi : vs[i] < n := hv _ (List.getElem_mem hi)
    have ih := impl_free_loop V hx vs hv h8 d (i + 1) (by omega)
    have hlen := V.len
    have e : ∀ k, impl_Graph_areApart.l0 (k + 1) (x : Int) (ints vs) (vs.length : Int) (i : Int) s l = if (rn l vs[i] &&& x == 0) = true then impl_Graph_areApart.l0 k (x : Int) (ints vs) (vs.length : Int) ((i + 1 : Nat) : Int) s l else some false := by
      intro k
      simp only [impl_Graph_areApart.l0]
      rw [if_pos (by omega), if_pos (by omega), if_pos (by rw [ints_length]; omega), ints_at vs i hi, if_pos (by omega), if_pos (by omega), V.row _ hvi, and_nat _ x (small _ n (V.lt _ hvi) V.hi) (small x n hx V.hi), next i (by omega)]
      by_cases h : rn l vs[i] &&& x = 0
      · rw [if_pos (by omega), if_pos (by simpa using h)]
      · rw [if_neg (by omega), if_neg (by simpa using h)]
    rw [List.drop_eq_getElem_cons hi, List.all_cons]
    cases hb : (rn l vs[i] &&& x == 0) with
    | true => exact Ev.step (fun k => by rw [e, hb, if_pos rfl]) (by rw [Bool.true_and]; exact ih)
    | false => exact Ev.step (f := fun _ => some false) (fun k => by rw [e, hb, if_neg (by decide)]) (by rw [Bool.false_and]; exact Ev.now _)
theorem impl_free {s : Int} {l : List Int} {n x : Nat} (V : Valid s l n) (hx : x < 2 ^ n) : Ev (fun k => impl_Graph_areApart.f k s l (x : Int)) (freeB l x) := by
  unfold impl_Graph_areApart.f
  refine Ev.bind (impl_list x (Nat.lt_of_lt_of_le hx (pow_le_256 n V.hi))) ?_
  rw [ints_length]
  have h := impl_free_loop V hx (bitsOf x) (fun v hv => ((bitsOf_mem x n v hx V.hi).mp hv).1) (bitsOf_length x) (bitsOf x).length 0 (by omega)
  rw [List.drop_zero] at h
  exact h

end Go.Proofs.YtfnlbakeefcmeaaDoor.Pure
