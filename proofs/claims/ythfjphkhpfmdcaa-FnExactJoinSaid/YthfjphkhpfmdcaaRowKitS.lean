/- A list of strings that comes in, opened: the list, and what the row's own bound says of its length and of each string; no condition beside the row's. -/
import Derived.Test.YthfjphkhpfmdcaaWMore
import Derived.Test.YthfjphkhpfmdcaaWSized
import Derived.Test.YthfjphkhpfmdcaaProg
import Derived.ProofKit
import Derived.OpenShut
import Derived.SliceStrings
import Derived.SizedLaws
import Derived.ChangeOld
namespace Go.Proofs.Ythfjphkhpfmdcaa.Q
open Go.ChangeShapes Go.WideShapes Go.RowKit Go.Proofs.YthfjphkhpfmdcaaW.PrintWords
set_option linter.unusedVariables false

theorem laidOutS : laidOutB Try.prog = true := by kernel_rfl
theorem weight_str {H : Type} (P : Program) (e : TypeId) (s : ByteArray) : ∀ (ss : List ByteArray), s ∈ ss → s.data.toList.length ∈ DataW.weightsAll P e (strs (H := H) ss)
  | [], h => absurd h List.not_mem_nil
  | x :: ss, h => by
    show _ ∈ DataW.weights P e (.lit (.string x.data.toList)) ++ DataW.weightsAll P e (strs ss)
    rw [List.mem_append]
    rcases List.mem_cons.mp h with rfl | h
    · refine .inl ?_
      rw [DataW.weights]
      exact List.mem_cons_self
    · exact .inr (weight_str P e s ss h)

set_option maxRecDepth 100000 in
theorem open_list {H : Type} {enc : TypeId × Value → H} {W : World} {base : Nat} {spare : Nat → Bool} {held : Bool} {d : DataW H} {p : List MemPlace} {ts : List TypeId} {ds : List (DataW H)} {j : Nat} {a : Option Addr} {len cap : Nat}
    (hsz : (DataW.weightsEach Try.prog ts ds).all (· ≤ reachBytes) = true) (ht : ts[j]? = some 39) (hd : ds[j]? = some d) (h : DataW.Trod enc Try.prog W base spare held 39 (.slice a len cap) d p) :
    ∃ l : List ByteArray, l.length = len ∧ Kd.C Kd.string W a l.length l ∧ l.length ≤ cap ∧ l.length ≤ 140737488355328 ∧ ∀ x ∈ l, x.size ≤ 140737488355328 := by
  obtain ⟨fuel, hf⟩ := h
  rcases open_strings Try.underlying39 Try.underlying9 (by kernel_rfl) hf with ⟨hcs, hx⟩ | ⟨x, l, c, ss, hcs, _, hl, hm, hz, hx, hcell, hwz⟩
  · simp [Value.cells] at hcs
    obtain ⟨rfl, rfl, rfl⟩ := hcs
    exact ⟨[], rfl, Kd.C_nil _ _, Nat.le_refl _, by simp, by simp⟩
  · simp [Value.cells] at hcs
    obtain ⟨rfl, rfl, rfl⟩ := hcs
    obtain ⟨hx, _⟩ := Prod.mk.inj hx
    subst hx
    have hl2 : len ≤ ss.length := by
      rw [hz]
      split
      · exact hl
      · exact Nat.le_refl _
    have hw : ∀ m ∈ DataW.weights Try.prog 39 (.slice (strs (H := H) (ss.take len)) (strs (ss.drop len))), m ≤ 140737488355328 := by
      intro m hm
      have hmem := DataW.weights_mem_each ht hd m hm
      have h2 := List.all_eq_true.1 hsz _ hmem
      have h3 : m ≤ reachBytes := by simpa using h2
      exact Nat.le_trans h3 (by decide)
    have e16 : Try.prog.bytesOf 9 = 16 := by kernel_rfl
    simp only [DataW.weights, Try.underlying39, e16] at hw
    have hlen : (ss.take len).length = len := by rw [List.length_take]; omega
    have hb := hw _ List.mem_cons_self
    simp only [strs, List.length_map, hlen, List.length_drop] at hb
    refine ⟨ss.take len, hlen, ?_, by omega, by omega, fun y hy => ?_⟩
    · rw [hlen]
      refine Kd.C_of_reads (d := ByteArray.empty) (h1 := fun _ => rfl) ?_
      refine ⟨hlen, by unfold maxLen at hm; omega, fun _ => ⟨x, rfl, fun i hi => ?_⟩⟩
      rw [hcell i (by omega)]
      simp [List.getD, hi]
    · have := hw _ (List.mem_cons_of_mem _ (List.mem_append_left _ (weight_str (H := H) Try.prog 9 y _ hy)))
      rw [← data_length]
      exact this

end Go.Proofs.Ythfjphkhpfmdcaa.Q
