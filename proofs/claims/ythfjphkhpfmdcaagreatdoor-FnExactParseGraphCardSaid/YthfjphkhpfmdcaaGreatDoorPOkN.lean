/- GraphOk of the program and of the reference both tell whether the graph is valid; condition: fewer than 2^40 rows. -/
import Derived.Test.YthfjphkhpfmdcaaGreatDoorPlain
import Derived.Test.YthfjphkhpfmdcaaGreatDoorQx7N
import Derived.Test.YthfjphkhpfmdcaaGreatDoorQx8N
import Derived.Test.YthfjphkhpfmdcaaGreatDoorQx13N
import Derived.Test.YthfjphkhpfmdcaaGreatDoorQx14N
namespace Go.Proofs.YthfjphkhpfmdcaaGreatDoor.Pure
open Go.RowKit Go.Proofs.YthfjphkhpfmdcaaGreatDoor.Q Go.Proofs.YthfjphkhpfmdcaaGreatDoorW.PrintWords Go.Proofs.YthfjphkhpfmdcaaGreatDoorW.PrintLast Go.Proofs.YthfjphkhpfmdcaaGreatDoorW.PrintMore

theorem spec_in (x lo hi : Int) : spec_l01In.f x lo hi = some (decide (lo ≤ x) && decide (x ≤ hi)) := by
  unfold spec_l01In.f
  by_cases h : x ≥ lo
  · rw [if_pos h, decide_eq_true (show lo ≤ x from h), Bool.true_and]
  · rw [if_neg h, decide_eq_false (show ¬ lo ≤ x from h), Bool.false_and]
theorem impl_in_is (x lo hi : Int) : impl_in.f x lo hi = some (decide (lo ≤ x) && decide (x ≤ hi)) := by
  unfold impl_in.f
  by_cases h : lo ≤ x
  · rw [if_pos h, decide_eq_true h, Bool.true_and]
  · rw [if_neg h, decide_eq_false h, Bool.false_and]
theorem spec_has (x v : Nat) (hx : x < 2 ^ 62) (hv : v ≤ 60) : spec_l02Has.f (x : Int) (v : Int) = some (x.testBit v) := by
  unfold spec_l02Has.f
  rw [if_pos (by omega), has_mask x v hx hv]
theorem impl_has_is (x v : Nat) (hx : x < 2 ^ 62) (hv : v ≤ 60) : impl_has.f (x : Int) (v : Int) = some (x.testBit v) := by
  unfold impl_has.f
  rw [if_pos (by omega), has_shift x v hx hv]
theorem small (x n : Nat) (h : x < 2 ^ n) (hn : n ≤ 8) : x < 2 ^ 62 := Nat.lt_of_lt_of_le (Nat.lt_of_lt_of_le h (pow_le_256 n hn)) (by decide)
theorem next (i : Nat) (h : i ≤ 1000) : wrap64 ((i : Int) + 1) = ((i + 1 : Nat) : Int) := by rw [wrap_close _ (by omega) (by omega)]; omega

theorem spec_ok2 (l : List Int) (n : Nat) (hn : n ≤ 8) (hl : l.length = n) (hr : ∀ v, v < n → rd l (v : Int) = ((rn l v : Nat) : Int) ∧ rn l v < 2 ^ n) (v : Nat) (hv : v < n) (R : Bool)
    (hnext : Ev (fun k => spec_GraphOk.l1 k l (n : Int) ((v + 1 : Nat) : Int) (n : Int) l) R) :
    ∀ (d w : Nat), w + d = n → Ev (fun k => spec_GraphOk.l2 k (v : Int) ((rn l v : Nat) : Int) l (n : Int) (v : Int) (n : Int) (w : Int) (n : Int) l) (allFrom (symB l v) w d && R)
  | 0, w, hd => by
    refine Ev.step (f := fun k => spec_GraphOk.l1 k l (n : Int) ((v + 1 : Nat) : Int) (n : Int) l) (fun k => ?_) (by simpa [allFrom] using hnext)
    simp only [spec_GraphOk.l2]
    rw [if_neg (by omega), next v (by omega)]
  | d + 1, w, hd => by
    have ih := spec_ok2 l n hn hl hr v hv R hnext d (w + 1) (by omega)
    have hs1 := small _ n (hr v hv).2 hn
    have hs2 := small _ n (hr w (by omega)).2 hn
    have e : ∀ k, spec_GraphOk.l2 (k + 1) (v : Int) ((rn l v : Nat) : Int) l (n : Int) (v : Int) (n : Int) (w : Int) (n : Int) l = if symB l v w = true then spec_GraphOk.l2 k (v : Int) ((rn l v : Nat) : Int) l (n : Int) (v : Int) (n : Int) ((w + 1 : Nat) : Int) (n : Int) l else some false := by
      intro k
      simp only [spec_GraphOk.l2]
      rw [if_pos (by omega), spec_has _ w hs1 (by omega), Option.bind_some, if_pos (by omega), if_pos (by omega), (hr w (by omega)).1, spec_has _ v hs2 (by omega), Option.bind_some, next w (by omega)]
      unfold symB
      cases (rn l v).testBit w <;> cases (rn l w).testBit v <;> simp
    rw [allFrom_succ]
    cases hs : symB l v w with
    | true =>
      refine Ev.step (fun k => ?_) (by rw [Bool.true_and]; exact ih)
      rw [e, hs, if_pos rfl]
    | false =>
      refine Ev.step (f := fun _ => some false) (fun k => ?_) (by rw [Bool.false_and, Bool.false_and]; exact Ev.now false)
      rw [e, hs, if_neg (by decide)]

theorem spec_ok1 (l : List Int) (n : Nat) (hn : n ≤ 8) (hl : l.length = n) (hr : ∀ v, v < n → rd l (v : Int) = ((rn l v : Nat) : Int) ∧ rn l v < 2 ^ n) :
    ∀ (d v : Nat), v + d = n → Ev (fun k => spec_GraphOk.l1 k l (n : Int) (v : Int) (n : Int) l) (allFrom (fun v => allFrom (symB l v) 0 n) v d)
  | 0, v, hd => by
    refine Ev.step (f := fun _ => some true) (fun k => ?_) (by simpa [allFrom] using Ev.now true)
    simp only [spec_GraphOk.l1]
    rw [if_neg (by omega)]
  | d + 1, v, hd => by
    have ih := spec_ok1 l n hn hl hr d (v + 1) (by omega)
    have h2 := spec_ok2 l n hn hl hr v (by omega) _ ih n 0 (by omega)
    rw [allFrom_succ]
    refine Ev.step (f := fun k => spec_GraphOk.l2 k (v : Int) ((rn l v : Nat) : Int) l (n : Int) (v : Int) (n : Int) ((0 : Nat) : Int) (n : Int) l) (fun k => ?_) h2
    simp only [spec_GraphOk.l1]
    rw [if_pos (by omega), if_pos (by omega), if_pos (by omega), (hr v (by omega)).1, hl]
    rfl

theorem spec_ok0 (l : List Int) (n : Nat) (hn : n ≤ 8) (hl : l.length = n) :
    ∀ (d v : Nat), v + d = n → (∀ j, j < v → rowB l n j = true) → Ev (fun k => spec_GraphOk.l0 k l (n : Int) (v : Int) (n : Int) l) (allFrom (rowB l n) v d && allFrom (fun v => allFrom (symB l v) 0 n) 0 n)
  | 0, v, hd, hb => by
    have h1 := spec_ok1 l n hn hl (fun j hj => ⟨((rowB_iff l n j).mp (hb j (by omega))).1, ((rowB_iff l n j).mp (hb j (by omega))).2.1⟩) n 0 (by omega)
    refine Ev.step (f := fun k => spec_GraphOk.l1 k l (n : Int) ((0 : Nat) : Int) (n : Int) l) (fun k => ?_) (by simpa [allFrom] using h1)
    simp only [spec_GraphOk.l0]
    rw [if_neg (by omega), hl]
    rfl
  | d + 1, v, hd, hb => by
    have e : ∀ k, spec_GraphOk.l0 (k + 1) l (n : Int) (v : Int) (n : Int) l = if rowB l n v = true then spec_GraphOk.l0 k l (n : Int) ((v + 1 : Nat) : Int) (n : Int) l else some false := by
      intro k
      simp only [spec_GraphOk.l0]
      rw [if_pos (by omega), if_pos (by omega), if_pos (by omega), if_pos (by omega), full_val n hn, spec_in, Option.bind_some, next v (by omega)]
      unfold rowB
      by_cases h1 : (decide (0 ≤ rd l (v : Int)) && decide (rd l (v : Int) ≤ ((2 ^ n - 1 : Nat) : Int))) = true
      · rw [if_pos h1, h1, Bool.true_and]
        have h2 : 0 ≤ rd l (v : Int) ∧ rd l (v : Int) ≤ ((2 ^ n - 1 : Nat) : Int) := by simpa using h1
        have hp : 0 < 2 ^ n := Nat.two_pow_pos n
        have h3 : rd l (v : Int) = ((rn l v : Nat) : Int) := by unfold rn; omega
        have h4 : rn l v < 2 ^ n := by omega
        rw [h3, spec_has _ v (small _ n h4 hn) (by omega), Option.bind_some]
        cases (rn l v).testBit v <;> simp
      · rw [if_neg h1, Bool.eq_false_iff.mpr h1, Bool.false_and, if_neg (by decide)]
    rw [allFrom_succ]
    cases hs : rowB l n v with
    | true =>
      have ih := spec_ok0 l n hn hl d (v + 1) (by omega) (fun j hj => by
        by_cases hjv : j = v
        · rw [hjv]; exact hs
        · exact hb j (by omega))
      refine Ev.step (fun k => ?_) (by rw [Bool.true_and]; exact ih)
      rw [e, hs, if_pos rfl]
    | false =>
      refine Ev.step (f := fun _ => some false) (fun k => ?_) (by rw [Bool.false_and, Bool.false_and]; exact Ev.now false)
      rw [e, hs, if_neg (by decide)]

theorem spec_ok (s : Int) (l : List Int) : Ev (fun k => spec_GraphOk.f k s l) (okB s l) := by
  unfold spec_GraphOk.f okB
  rw [spec_in]
  simp only [Option.bind_some]
  cases h : (decide (1 ≤ s) && decide (s ≤ 8)) with
  | false =>
    simp only [Bool.false_eq_true, if_false, Bool.false_and]
    exact Ev.step (f := fun _ => some false) (fun k => by simp only [spec_GraphOk.j0]; rw [if_pos trivial]) (Ev.now false)
  | true =>
    have hs : 1 ≤ s ∧ s ≤ 8 := by simpa using h
    simp only [if_true, Bool.true_and]
    by_cases hl : (l.length : Int) = s
    · subst hl
      have h0 := spec_ok0 l l.length (by omega) rfl l.length 0 (by omega) (fun j hj => by omega)
      refine Ev.step (f := fun k => spec_GraphOk.l0 k l (l.length : Int) ((0 : Nat) : Int) (l.length : Int) l) (fun k => ?_) (by simpa using h0)
      simp only [spec_GraphOk.j0]
      rw [if_neg (by simp)]
      rfl
    · refine Ev.step (f := fun _ => some false) (fun k => ?_) (by simpa [hl] using Ev.now false)
      simp only [spec_GraphOk.j0]
      rw [if_pos (by simpa using hl)]

end Go.Proofs.YthfjphkhpfmdcaaGreatDoor.Pure
