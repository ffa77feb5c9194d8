/- ParseSet of the program and ParseSet of the reference give the same answer at every text; no condition. -/
import Derived.Laws.Strings
import Derived.Test.YtfnlbakeefcmeaaDoorQx33
namespace Go.Proofs.YtfnlbakeefcmeaaDoor.Pure
open Go.RowKit Go.Proofs.YtfnlbakeefcmeaaDoor.Q Go.Proofs.YtfnlbakeefcmeaaDoorW.PrintWords Go.Proofs.YtfnlbakeefcmeaaDoorW.PrintLast

theorem text_inj (a b : ByteArray) : a.toList = b.toList ↔ a = b := by
  rw [ByteArray.toList_eq, ByteArray.toList_eq]
  exact ⟨fun h => ByteArray.ext (Array.toList_inj.mp h), fun h => by rw [h]⟩
/-- The text of a set. -/
def fmtT (x : Nat) : ByteArray := (impl_FormatSet.f 40 (x : Int)).getD ByteArray.empty
theorem fmt_both : ∀ n : Fin 256, (impl_FormatSet.f 40 ((n.val : Nat) : Int)).isSome = true ∧ (spec_FormatSet.f 40 ((n.val : Nat) : Int)).map (fun t => t.data.toList) = (impl_FormatSet.f 40 ((n.val : Nat) : Int)).map (fun t => t.data.toList) := by decide +kernel
theorem impl_fmt40 (x : Nat) (hx : x < 256) : impl_FormatSet.f 40 (x : Int) = some (fmtT x) := by
  have h := (fmt_both ⟨x, hx⟩).1
  unfold fmtT
  cases e : impl_FormatSet.f 40 (x : Int) with
  | none => rw [e] at h; cases h
  | some t => rfl
theorem spec_fmt40 (x : Nat) (hx : x < 256) : spec_FormatSet.f 40 (x : Int) = some (fmtT x) := by
  have h := (fmt_both ⟨x, hx⟩).2
  have h1 := impl_fmt40 x hx
  simp only [h1, Option.map_some] at h
  cases e : spec_FormatSet.f 40 (x : Int) with
  | none => rw [e] at h; cases h
  | some t =>
    rw [e] at h
    have h2 : t.data.toList = (fmtT x).data.toList := Option.some.inj h
    rw [ByteArray.ext (Array.toList_inj.mp h2)]
theorem impl_fmt (x : Nat) (hx : x < 256) : Ev (fun k => impl_FormatSet.f k (x : Int)) (fmtT x) := Ev.of (fun k => impl_FormatSet.mono (x : Int) k) (impl_fmt40 x hx)
theorem spec_fmt (x : Nat) (hx : x < 256) : Ev (fun k => spec_FormatSet.f k (x : Int)) (fmtT x) := Ev.of (fun k => spec_FormatSet.mono (x : Int) k) (spec_fmt40 x hx)

/-- A set with the vertex that a letter names, if it names one. -/
def take1 (a : Nat) (c : Int) : Nat := if 48 ≤ c ∧ c ≤ 55 then a ||| 2 ^ (c - 48).toNat else a
/-- The set that d letters from i on name, added to a. -/
def accFrom (s : ByteArray) : Nat → Nat → Nat → Nat
  | a, _, 0 => a
  | a, i, d + 1 => accFrom s (take1 a (bt s (i : Int))) (i + 1) d
theorem take1_lt (a : Nat) (c : Int) (h : a < 256) : take1 a c < 256 := by
  unfold take1
  by_cases hc : 48 ≤ c ∧ c ≤ 55
  · rw [if_pos hc]
    exact Nat.or_lt_two_pow (n := 8) h (Nat.pow_lt_pow_right (by decide) (by omega))
  · rw [if_neg hc]; exact h
theorem accFrom_lt (s : ByteArray) : ∀ (d a i : Nat), a < 256 → accFrom s a i d < 256
  | 0, _, _, h => h
  | d + 1, a, i, h => accFrom_lt s d _ (i + 1) (take1_lt a _ h)
/-- The set that a text names. -/
def setOf (s : ByteArray) : Nat := accFrom s 0 0 s.size
theorem setOf_fmt : ∀ n : Fin 256, setOf (fmtT n.val) = n.val := by decide +kernel

theorem or_pow : ∀ a : Fin 256, ∀ b : Fin 8, Go.bits .or .i64 ((a.val : Nat) : Int) (shl .i64 1 ((b.val : Nat) : Int)) = ((a.val ||| 2 ^ b.val : Nat) : Int) := by decide +kernel
theorem wrapN (x : Nat) (h : x ≤ 1000000000) : wrap64 ((x : Int) + 1) = ((x + 1 : Nat) : Int) := by unfold wrap64; omega

/-- What both give. -/
def answer (s : ByteArray) : Int × Bool := if fmtT (setOf s) = s then (((setOf s : Nat) : Int), true) else (0, false)

theorem impl_loop (s : ByteArray) (hs : s.size ≤ 1000000) : ∀ (d i a : Nat), i + d = s.size → a < 256 → Ev (fun k => impl_ParseSet.l0 k s (a : Int) (s.size : Int) (i : Int)) (if fmtT (accFrom s a i d) = s then (((accFrom s a i d : Nat) : Int), true) else (0, false))
  | 0, i, a, hd, ha => by
    have h := Ev.bind (f := fun _ t => if t.toList = s.toList then (some ((a : Int), true)) else (some (0, false))) (r := if fmtT a = s then ((a : Int), true) else (0, false)) (impl_fmt a ha) (by
      simp only [text_inj]
      by_cases e : fmtT a = s
      · simp only [e, if_true]; exact Ev.now _
      · simp only [e, if_false]; exact Ev.now _)
    refine Ev.step (fun k => ?_) h
    simp only [impl_ParseSet.l0]
    rw [if_neg (by omega)]
  | d + 1, i, a, hd, ha => by
    have ih := impl_loop s hs d (i + 1) (take1 a (bt s (i : Int))) (by omega) (take1_lt a _ ha)
    refine Ev.step (fun k => ?_) ih
    simp only [impl_ParseSet.l0]
    rw [if_pos (by omega), if_pos (by omega), if_pos (by omega), wrapN i (by omega)]
    unfold take1
    by_cases h1 : bt s (i : Int) ≥ 48
    · rw [if_pos h1]
      by_cases h2 : bt s (i : Int) ≤ 55
      · have hb : (bt s (i : Int) - 48) % 256 = (((bt s (i : Int) - 48).toNat : Nat) : Int) := by omega
        have ho := or_pow ⟨a, ha⟩ ⟨(bt s (i : Int) - 48).toNat, by omega⟩
        simp only at ho
        rw [if_pos h2, if_pos ⟨h1, h2⟩, hb]
        unfold impl_bit.f
        rw [if_pos (by omega), Option.bind_some, ho]
      · rw [if_neg h2, if_neg (by omega)]
    · rw [if_neg h1, if_neg (by omega)]
theorem impl_parse (s : ByteArray) (hs : s.size ≤ 1000000) : Ev (fun k => impl_ParseSet.f k s) (answer s) := by
  unfold impl_ParseSet.f answer setOf
  exact impl_loop s hs s.size 0 0 (by omega) (by decide)

theorem spec_miss (s : ByteArray) : ∀ (d i : Nat), i + d = 256 → (∀ x, i ≤ x → x < 256 → fmtT x ≠ s) → Ev (fun k => spec_ParseSet.l0 k s (i : Int)) (0, false)
  | 0, i, hd, _ => by
    refine Ev.step (f := fun _ => some (0, false)) (fun k => ?_) (Ev.now _)
    simp only [spec_ParseSet.l0]
    rw [if_neg (by omega)]
  | d + 1, i, hd, h => by
    have ih := spec_miss s d (i + 1) (by omega) (fun x h1 h2 => h x (by omega) h2)
    have hb := Ev.bind (f := fun k t => if t.toList = s.toList then (some ((i : Int), true)) else spec_ParseSet.l0 k s (wrap64 ((i : Int) + 1))) (r := (0, false)) (spec_fmt i (by omega)) (by
      simp only [text_inj, h i (Nat.le_refl _) (by omega), if_false, wrapN i (by omega)]
      exact ih)
    refine Ev.step (fun k => ?_) hb
    simp only [spec_ParseSet.l0]
    rw [if_pos (by omega)]
theorem spec_hit (s : ByteArray) (x : Nat) (hx : x < 256) (hs : fmtT x = s) : ∀ (d i : Nat), i + d = x → Ev (fun k => spec_ParseSet.l0 k s (i : Int)) ((x : Int), true)
  | 0, i, hd => by
    have hix : i = x := by omega
    subst hix
    have hb := Ev.bind (f := fun k t => if t.toList = s.toList then (some ((i : Int), true)) else spec_ParseSet.l0 k s (wrap64 ((i : Int) + 1))) (r := ((i : Int), true)) (spec_fmt i (by omega)) (by
      simp only [hs, if_true]
      exact Ev.now _)
    refine Ev.step (fun k => ?_) hb
    simp only [spec_ParseSet.l0]
    rw [if_pos (by omega)]
  | d + 1, i, hd => by
    have ih := spec_hit s x hx hs d (i + 1) (by omega)
    have hne : fmtT i ≠ s := by
      intro e
      have h1 := setOf_fmt ⟨i, by omega⟩
      have h2 := setOf_fmt ⟨x, hx⟩
      simp only at h1 h2
      rw [e] at h1
      rw [hs] at h2
      omega
    have hb := Ev.bind (f := fun k t => if t.toList = s.toList then (some ((i : Int), true)) else spec_ParseSet.l0 k s (wrap64 ((i : Int) + 1))) (r := ((x : Int), true)) (spec_fmt i (by omega)) (by
      simp only [text_inj, hne, if_false, wrapN i (by omega)]
      exact ih)
    refine Ev.step (fun k => ?_) hb
    simp only [spec_ParseSet.l0]
    rw [if_pos (by omega)]
theorem spec_parse (s : ByteArray) : Ev (fun k => spec_ParseSet.f k s) (answer s) := by
  unfold spec_ParseSet.f answer
  have hlt : setOf s < 256 := accFrom_lt s s.size 0 0 (by decide)
  by_cases h : fmtT (setOf s) = s
  · rw [if_pos h]
    exact spec_hit s (setOf s) hlt h (setOf s) 0 (by omega)
  · rw [if_neg h]
    refine spec_miss s 256 0 rfl (fun x _ hx e => h ?_)
    have h1 := setOf_fmt ⟨x, hx⟩
    simp only at h1
    rw [e] at h1
    rw [h1]
    exact e

theorem FnExactParseSet : laws_FnExactParseSet.Pure := by
  intro s _
  by_cases hs : s.size ≤ 1000000
  · obtain ⟨K, h1⟩ := spec_parse s
    obtain ⟨K', h2⟩ := impl_parse s hs
    refine ⟨max K K', ?_⟩
    unfold laws_FnExactParseSet.f
    have e1 : spec_ParseSet.f (max K K') s = some (answer s) := h1 _ (by omega)
    have e2 : impl_ParseSet.f (max K K') s = some (answer s) := h2 _ (by omega)
    rw [if_neg (by omega), e1, e2, Option.bind_some, Option.bind_some, if_pos rfl, if_neg (by simp)]
  · refine ⟨0, ?_⟩
    unfold laws_FnExactParseSet.f
    rw [if_pos (by omega)]

end Go.Proofs.YtfnlbakeefcmeaaDoor.Pure
