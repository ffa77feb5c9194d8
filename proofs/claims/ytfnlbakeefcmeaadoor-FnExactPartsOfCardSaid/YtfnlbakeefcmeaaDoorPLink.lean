/- What of a set is linked to a vertex of it: how it is reached step by step; plain words; condition: a valid graph and a set of it. -/
import Derived.Test.YtfnlbakeefcmeaaDoorPSize
namespace Go.Proofs.YtfnlbakeefcmeaaDoor.Pure
open Go.RowKit Go.Proofs.YtfnlbakeefcmeaaDoorW.PrintWords Go.Proofs.YtfnlbakeefcmeaaDoorW.PrintLast Go.Proofs.YtfnlbakeefcmeaaDoorW.PrintMore

theorem fold_bit (l : List Int) (i : Nat) : ∀ (vs : List Nat) (a : Nat), (vs.foldl (fun a v => a ||| rn l v) a).testBit i = true ↔ a.testBit i = true ∨ ∃ v, v ∈ vs ∧ (rn l v).testBit i = true
  | [], a => by simp
  | v :: vs, a => by
    rw [List.foldl_cons, fold_bit l i vs, Nat.testBit_or, Bool.or_eq_true]
    constructor
    · rintro ((h | h) | ⟨u, h1, h2⟩)
      · exact .inl h
      · exact .inr ⟨v, List.mem_cons_self, h⟩
      · exact .inr ⟨u, List.mem_cons_of_mem _ h1, h2⟩
    · rintro (h | ⟨u, h1, h2⟩)
      · exact .inl (.inl h)
      · rcases List.mem_cons.mp h1 with rfl | h1
        · exact .inl (.inr h2)
        · exact .inr ⟨u, h1, h2⟩
theorem near_bit (l : List Int) (x i : Nat) : (near l x).testBit i = true ↔ x.testBit i = true ∨ ∃ v, v ∈ bitsOf x ∧ (rn l v).testBit i = true := fold_bit l i _ _
/-- One step within the set. -/
def grow (l : List Int) (set p : Nat) : Nat := near l p &&& set
theorem grow_set (l : List Int) (set p : Nat) : Sub (grow l set p) set := fun i h => by
  unfold grow at h
  rw [Nat.testBit_and, Bool.and_eq_true] at h
  exact h.2
theorem sub_grow (l : List Int) {set p : Nat} (h : Sub p set) : Sub p (grow l set p) := fun i hi => by
  unfold grow
  rw [Nat.testBit_and, h i hi, Bool.and_true]
  exact (near_bit l p i).mpr (.inl hi)
/-- So many steps. -/
def iterN (l : List Int) (set : Nat) : Nat → Nat → Nat
  | 0, p => p
  | k + 1, p => iterN l set k (grow l set p)
theorem iterN_fix (l : List Int) (set p : Nat) (h : grow l set p = p) : ∀ k, iterN l set k p = p
  | 0 => rfl
  | k + 1 => by
    unfold iterN
    rw [h]
    exact iterN_fix l set p h k
theorem iterN_sub (l : List Int) (set : Nat) : ∀ (k p : Nat), Sub p set → Sub p (iterN l set k p) ∧ Sub (iterN l set k p) set
  | 0, p, h => ⟨Sub.refl p, h⟩
  | k + 1, p, h => by
    have ih := iterN_sub l set k (grow l set p) (grow_set l set p)
    exact ⟨(sub_grow l h).trans ih.1, ih.2⟩
theorem grow_more {l : List Int} {set p n : Nat} (hset : set < 2 ^ n) (hn : n ≤ 8) (hp : Sub p set) (h : ¬ grow l set p = p) : size p < size (grow l set p) ∧ size (grow l set p) ≤ n :=
  ⟨size_strict (sub_grow l hp) ((grow_set l set p).lt hset) hn (fun e => h e.symm), size_le_n ((grow_set l set p).lt hset) hn⟩
theorem iterN_end {l : List Int} {set n : Nat} (hset : set < 2 ^ n) (hn : n ≤ 8) : ∀ (d p : Nat), Sub p set → n ≤ d + size p → grow l set (iterN l set d p) = iterN l set d p
  | 0, p, hp, hd => by
    by_cases h : grow l set p = p
    · exact h
    · have := grow_more hset hn hp h
      omega
  | d + 1, p, hp, hd => by
    by_cases h : grow l set p = p
    · rw [iterN_fix l set p h]
      exact h
    · have := grow_more hset hn hp h
      exact iterN_end hset hn d (grow l set p) (grow_set l set p) (by omega)
/-- What of the set is linked to the vertex. -/
def part (l : List Int) (n set v : Nat) : Nat := iterN l set n (2 ^ v)
theorem part_set (l : List Int) (n set v : Nat) (hv : set.testBit v = true) : Sub (part l n set v) set := (iterN_sub l set n (2 ^ v) (sub_bit hv)).2
theorem part_has (l : List Int) (n set v : Nat) (hv : set.testBit v = true) : (part l n set v).testBit v = true := (iterN_sub l set n (2 ^ v) (sub_bit hv)).1 v ((bit_one v v).mpr rfl)
theorem part_end {l : List Int} {n set v : Nat} (hset : set < 2 ^ n) (hn : n ≤ 8) (hv : set.testBit v = true) : grow l set (part l n set v) = part l n set v :=
  iterN_end hset hn n (2 ^ v) (sub_bit hv) (by omega)

/-- The linked parts of a set, behind those that are there. -/
def partsN (l : List Int) (n : Nat) : Nat → Nat → List Nat → List Nat
  | 0, _, out => out
  | d + 1, set, out => if set = 0 then out else partsN l n d (minus set (part l n set (low set))) (out ++ [part l n set (low set)])
theorem partsN_length (l : List Int) (n : Nat) : ∀ (d set : Nat) (out : List Nat), (partsN l n d set out).length ≤ out.length + d
  | 0, _, _ => Nat.le_refl _
  | d + 1, set, out => by
    unfold partsN
    split
    · omega
    · have := partsN_length l n d (minus set (part l n set (low set))) (out ++ [part l n set (low set)])
      simp at this
      omega
theorem rest_less {l : List Int} {n set : Nat} (hset : set < 2 ^ n) (hn : n ≤ 8) (h : set ≠ 0) : size (minus set (part l n set (low set))) < size set := by
  have hl := low_mem hset hn h
  have h256 := pow_le_256 n hn
  have hp := part_has l n set (low set) hl.2
  have hps := part_set l n set (low set) hl.2
  refine size_strict (minus_sub _ _) hset hn (fun e => ?_)
  have hb := minus_bit set (part l n set (low set)) (low set) (by omega) (by have := hps.lt hset; omega)
  rw [e, hl.2, hp] at hb
  cases hb
theorem ints_snoc (out : List Nat) (p : Nat) : ints (out ++ [p]) = ints out ++ [(p : Int)] := by simp [ints]

end Go.Proofs.YtfnlbakeefcmeaaDoor.Pure
