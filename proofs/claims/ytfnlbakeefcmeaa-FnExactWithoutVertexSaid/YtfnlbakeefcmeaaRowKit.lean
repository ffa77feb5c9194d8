/- A graph that comes in by value, opened: its size, its rows as a list of whole numbers, and what the row's own bound says of their number; no condition beside the row's. -/
import Derived.Test.YtfnlbakeefcmeaaWMore
import Derived.Test.YtfnlbakeefcmeaaWSized
import Derived.Test.YtfnlbakeefcmeaaProg
import Derived.ProofKit
import Derived.OpenShut
import Derived.Lib.SmallJoins
import Derived.SizedLaws
import Derived.ChangeOld
namespace Go.Proofs.Ytfnlbakeefcmeaa.Q
open Go.ChangeShapes Go.WideShapes Go.RowKit Go.Joins Go.Proofs.YtfnlbakeefcmeaaW.PrintWords
set_option linter.unusedVariables false

theorem laidOut : laidOutB Try.prog = true := by kernel_rfl

set_option maxRecDepth 100000 in
theorem open_graph {H : Type} {enc : TypeId × Value → H} {W : World} {r : _} {b0 base : Nat} {spare : Nat → Bool} {held : Bool} {v : Value} {d : DataW H} {p : List MemPlace} {ts : List TypeId} {ds : List (DataW H)} {j : Nat}
    (hsz : (DataW.weightsEach Try.prog ts ds).all (· ≤ reachBytes) = true) (ht : ts[j]? = some 24) (hd : ds[j]? = some d) (hv : Value.okWide Try.prog W r b0 24 v) (h : DataW.Trod enc Try.prog W base spare held 24 v d p) :
    ∃ (s : Int) (A : Option Addr) (c : Nat) (l : List Int), v = .agg #[.int .i64 s, .slice A l.length c] ∧ (Lit.int .i64 s).wf = true ∧ Kd.C (Kd.int .i64) W A l.length l ∧ l.length ≤ c ∧ l.length * 8 ≤ 140737488351232 ∧ ∀ x ∈ l, (Lit.int .i64 x).wf = true := by
  obtain ⟨v0, v1, y0, y1, n, rfl, rfl, rfl, h0, h1⟩ := open_agg2 Try.underlying24 (by kernel_rfl) (show Try.prog.cellsOf 24 = 2 by kernel_rfl) hv h
  obtain ⟨s, e0, hy0, ws⟩ := DataW.trod_int Try.underlying3 h0
  simp at e0
  subst e0
  have hw : ∀ m ∈ y1.1.weights Try.prog 22, m ≤ reachBytes := by
    intro m hm
    have hmem : m ∈ DataW.weightsEach Try.prog ts ds := by
      refine DataW.weights_mem_each ht hd m ?_
      simp only [DataW.weights, Try.underlying24]
      exact DataW.weights_mem_each (j := 1) (t := 22) (d := y1.1) rfl rfl m hm
    have := List.all_eq_true.1 hsz _ hmem
    simpa using this
  rcases open_ints Try.underlying22 Try.underlying3 (by kernel_rfl) h1 with ⟨hcs, hx⟩ | ⟨x, len, cap, zs, hcs, _, hl, hm, hz, hx, hcell, hwz⟩
  · simp at hcs
    subst hcs
    exact ⟨s, none, 0, [], rfl, ws, Kd.C_nil _ _, Nat.le_refl _, by simp, by simp⟩
  · simp at hcs
    subst hcs
    subst hx
    have hl2 : len ≤ zs.length := by
      rw [hz]
      split
      · exact hl
      · exact Nat.le_refl _
    have hb : zs.length * 8 ≤ 140737488351232 := by
      have z := hw (zs.length * 8) (by
        have e8 : Try.prog.bytesOf 3 = 8 := by kernel_rfl
        simp only [DataW.weights, Try.underlying22, e8]
        have h1 : (lits (H := H) .i64 (zs.take len)).length + (lits (H := H) .i64 (zs.drop len)).length = zs.length := by
          simp [lits]
          omega
        rw [h1]
        exact List.mem_cons_self)
      exact z
    have hlen : (zs.take len).length = len := by rw [List.length_take]; omega
    refine ⟨s, some x, cap, zs.take len, by rw [hlen], ws, ?_, by omega, by omega, fun y hy => hwz y (List.mem_of_mem_take hy)⟩
    rw [hlen]
    refine Kd.C_of_reads (d := (0 : Int)) (h1 := fun _ => rfl) ?_
    refine ⟨hlen, by unfold maxLen at hm; omega, fun _ => ⟨x, rfl, fun i hi => ?_⟩⟩
    rw [hcell i (by omega)]
    simp [List.getD, hi]

end Go.Proofs.Ytfnlbakeefcmeaa.Q
