/- Join of the program and Join of the reference give one string at every list and separator; no condition. -/
import Derived.Test.YthfjphkhpfmdcaaWalkFnExactJoin
import Derived.Lib.Join
namespace Go.Proofs.Ythfjphkhpfmdcaa.Pure
open Go.RowKit Go.Proofs.Ythfjphkhpfmdcaa.Q Go.Proofs.YthfjphkhpfmdcaaW.PrintWords Go.Proofs.YthfjphkhpfmdcaaW.PrintLast

/-- The text of some letters. -/
def tx (l : List UInt8) : ByteArray := ⟨l.toArray⟩
theorem tx_size (l : List UInt8) : (tx l).size = l.length := rfl
theorem tx_append (a b : List UInt8) : tx a ++ tx b = tx (a ++ b) := by
  unfold tx
  apply ByteArray.ext
  simp
theorem tx_data (b : ByteArray) : tx b.data.toList = b := by
  unfold tx
  obtain ⟨⟨b⟩⟩ := b
  rfl
/-- All that stand behind the first, each behind a separator. -/
def tail (c : List UInt8) (xs : List (List UInt8)) : List UInt8 := (xs.map (c ++ ·)).flatten
theorem join_tail (c : List UInt8) : ∀ (xs : List (List UInt8)) (x : List UInt8), c.intercalate (x :: xs) = x ++ tail c xs
  | [], x => by simp [List.intercalate, tail]
  | y :: ys, x => by
    have ih := join_tail c ys y
    simp only [List.intercalate, List.intersperse, List.flatten_cons, tail, List.map_cons] at ih ⊢
    rw [ih]
    simp
theorem tail_length (c : List UInt8) : ∀ (xs : List (List UInt8)), (tail c xs).length = xs.length * c.length + (xs.map (·.length)).sum
  | [] => by simp [tail]
  | y :: ys => by
    have ih := tail_length c ys
    unfold tail at ih ⊢
    rw [List.map_cons, List.flatten_cons, List.length_append, List.length_append, ih, List.map_cons, List.sum_cons, List.length_cons, Nat.add_mul]
    omega
theorem at_list (l : List ByteArray) (i : Nat) (hi : i < l.length) : rdOf ByteArray.empty l (i : Int) = l[i] := by
  unfold rdOf
  rw [Int.toNat_natCast, List.getD_eq_getElem?_getD, List.getElem?_eq_getElem hi]
  rfl
theorem tot_lists (l : List ByteArray) : ((l.map (·.data.toList)).map (·.length)).sum = tot l := by
  unfold tot
  rw [List.map_map]
  congr 1
theorem tot_drop (l : List ByteArray) (i : Nat) : tot (l.drop i) ≤ tot l := by
  have h : tot l = tot (l.take i) + tot (l.drop i) := by
    unfold tot
    rw [← List.sum_append, ← List.map_append, List.take_append_drop]
  omega
theorem join_loop (l : List ByteArray) (b : ByteArray) (hl : l.length ≤ 1000000) : ∀ (d i : Nat) (x : List UInt8), i + d = l.length → 1 ≤ i → x.length + (tail b.data.toList ((l.drop i).map (·.data.toList))).length ≤ 140737488355328 →
    Ev (fun k => spec_Join.l0 k b (tx x) l (l.length : Int) (i : Int)) (tx (x ++ tail b.data.toList ((l.drop i).map (·.data.toList))))
  | 0, i, x, hd, h1, hx => by
    refine Ev.step (f := fun _ => some (tx x)) (fun k => ?_) ?_
    · simp only [spec_Join.l0]
      rw [if_neg (by omega)]
    · rw [List.drop_of_length_le (by omega)]
      simp only [tail, List.map_nil, List.flatten_nil, List.append_nil]
      exact Ev.now _
  | d + 1, i, x, hd, h1, hx => by
    have hi : i < l.length := by omega
    rw [List.drop_eq_getElem_cons hi, List.map_cons] at hx ⊢
    have ht : tail b.data.toList (l[i].data.toList :: (l.drop (i + 1)).map (·.data.toList)) = b.data.toList ++ l[i].data.toList ++ tail b.data.toList ((l.drop (i + 1)).map (·.data.toList)) := rfl
    rw [ht, List.length_append, List.length_append] at hx
    have ih := join_loop l b hl d (i + 1) (x ++ b.data.toList ++ l[i].data.toList) (by omega) (by omega) (by rw [List.length_append, List.length_append]; omega)
    have e : x ++ b.data.toList ++ l[i].data.toList ++ tail b.data.toList ((l.drop (i + 1)).map (·.data.toList)) = x ++ (b.data.toList ++ l[i].data.toList ++ tail b.data.toList ((l.drop (i + 1)).map (·.data.toList))) := by simp
    rw [e] at ih
    rw [ht]
    have hb := data_length b
    have hli := data_length l[i]
    refine Ev.step (fun k => ?_) ih
    simp only [spec_Join.l0]
    rw [if_pos (show (i : Int) < (l.length : Int) by omega), if_pos (show (0 : Int) ≤ (i : Int) by omega), if_pos (show (i : Int) < (l.length : Int) by omega), if_pos (show (i : Int) > 0 by omega), at_list l i hi]
    have h2 : tx x ++ b = tx (x ++ b.data.toList) := by rw [← tx_append, tx_data]
    have h3 : tx (x ++ b.data.toList) ++ l[i] = tx (x ++ b.data.toList ++ l[i].data.toList) := by rw [← tx_append (x ++ b.data.toList), tx_data]
    rw [h2, h3, tx_size, tx_size, if_pos (by omega), if_pos (by rw [List.length_append]; omega), wrap_near _ (by omega) (by omega)]
    rfl

theorem FnExactJoin : laws_FnExactJoin.Same := by
  intro l b hl ht hb
  have hbd := data_length b
  have himp : ∀ r, Lib.join (l.map (·.data.toList)) b.data.toList = r → r.length ≤ 140737488355328 → impl_Join.f l b = some (tx r) := by
    intro r hr hn
    unfold impl_Join.f strings_Join.f
    rw [hr, if_pos ⟨hl, hn⟩]
    rfl
  cases l with
  | nil =>
    refine ⟨1, tx [], rfl, himp [] ?_ (by simp)⟩
    unfold Lib.join
    simp [List.intercalate]
  | cons y ys =>
    have hlen := tail_length b.data.toList (ys.map (·.data.toList))
    rw [tot_lists, List.length_map, hbd] at hlen
    have htot : tot (y :: ys) = y.size + tot ys := by simp [tot]
    have hmul : ys.length * b.size ≤ 1000000 * 1000000 := Nat.mul_le_mul (by simp at hl; omega) hb
    have hyd := data_length y
    have hsum : y.data.toList.length + (tail b.data.toList (ys.map (·.data.toList))).length ≤ 140737488355328 := by omega
    have hj : Lib.join ((y :: ys).map (·.data.toList)) b.data.toList = y.data.toList ++ tail b.data.toList (ys.map (·.data.toList)) := by
      unfold Lib.join
      rw [List.map_cons, join_tail]
    have hloop := join_loop (y :: ys) b hl ys.length 1 y.data.toList (by simp; omega) (Nat.le_refl 1) hsum
    have hspec : Ev (fun k => spec_Join.f k (y :: ys) b) (tx (y.data.toList ++ tail b.data.toList (ys.map (·.data.toList)))) := by
      refine Ev.step (fun k => ?_) hloop
      unfold spec_Join.f
      simp only [spec_Join.l0]
      have h0 : (⟨#[]⟩ : ByteArray) ++ y = tx y.data.toList := by
        rw [tx_data]
        apply ByteArray.ext
        simp
      have hg : rdOf ByteArray.empty (y :: ys) 0 = y := rfl
      rw [if_pos (show (0 : Int) < ((y :: ys).length : Int) by simp), if_pos (show (0 : Int) ≤ 0 by omega), if_pos (show (0 : Int) < ((y :: ys).length : Int) by simp), if_neg (show ¬ (0 : Int) > 0 by omega), hg, if_pos (show (⟨#[]⟩ : ByteArray).size + y.size ≤ 9223372036854775807 by show 0 + y.size ≤ _; omega), h0, wrap_near _ (by omega) (by omega)]
      rfl
    obtain ⟨k, hk⟩ := Ev.rounds hspec
    exact ⟨k, _, hk, himp _ hj (by rw [List.length_append]; exact hsum)⟩

end Go.Proofs.Ythfjphkhpfmdcaa.Pure
