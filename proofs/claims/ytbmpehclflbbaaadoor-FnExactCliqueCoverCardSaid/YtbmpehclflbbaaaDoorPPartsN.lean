/- The linked part of a set and all its linked parts, by the reference and by the program; condition: a valid graph and a set of it. -/
import Derived.Test.YtbmpehclflbbaaaDoorPNearN
import Derived.Test.YtbmpehclflbbaaaDoorQx6N
import Derived.Test.YtbmpehclflbbaaaDoorQx12N
import Derived.Test.YtbmpehclflbbaaaDoorQx13N
import Derived.Test.YtbmpehclflbbaaaDoorQx22N
namespace Go.Proofs.YtbmpehclflbbaaaDoor.Pure
open Go.RowKit Go.Proofs.YtbmpehclflbbaaaDoor.Q Go.Proofs.YtbmpehclflbbaaaDoorW.PrintWords Go.Proofs.YtbmpehclflbbaaaDoorW.PrintLast Go.Proofs.YtbmpehclflbbaaaDoorW.PrintMore

theorem impl_part_loop {s : Int} {l : List Int} {n set : Nat} (V : Valid s l n) (hset : set < 2 ^ n) :
    ∀ (d p : Nat), Sub p set → n ≤ d + size p → Ev (fun k => impl_Graph_part.l0 k (set : Int) (p : Int) s l) ((iterN l set d p : Nat) : Int)
  | d, p, hp, hd => by
    have hn := V.hi
    have hpl := hp.lt hset
    have hnl := near_lt V hpl
    have e : Go.bits .and .i64 ((near l p : Nat) : Int) (set : Int) = ((grow l set p : Nat) : Int) := and_nat _ _ (small _ n hnl hn) (small _ n hset hn)
    by_cases h : grow l set p = p
    · rw [iterN_fix l set p h]
      refine Ev.step (fun k => by simp only [impl_Graph_part.l0]; rfl) ?_
      refine Ev.bind (impl_near V hpl) ?_
      rw [e, h]
      simp only [if_true]
      exact Ev.now _
    · cases d with
      | zero =>
        have := grow_more hset hn hp h
        omega
      | succ d =>
        have hm := grow_more hset hn hp h
        have ih := impl_part_loop V hset d (grow l set p) (grow_set l set p) (by omega)
        refine Ev.step (fun k => by simp only [impl_Graph_part.l0]; rfl) ?_
        refine Ev.bind (impl_near V hpl) ?_
        rw [e]
        simp only [show ¬ ((grow l set p : Nat) : Int) = (p : Int) by omega, if_false]
        exact ih
theorem impl_part_is {s : Int} {l : List Int} {n set v : Nat} (V : Valid s l n) (hset : set < 2 ^ n) (hv : set.testBit v = true) : Ev (fun k => impl_Graph_part.f k s l (set : Int) (v : Int)) ((part l n set v : Nat) : Int) := by
  have hvn := bit_below hset hv
  have hn := V.hi
  unfold impl_Graph_part.f impl_bit.f
  simp only [show (0 : Int) ≤ (v : Int) by omega, if_true, Option.bind_some]
  rw [shl_one v (by omega)]
  exact impl_part_loop V hset n (2 ^ v) (sub_bit hv) (by omega)
theorem spec_part_loop {s : Int} {l : List Int} {n set : Nat} (V : Valid s l n) (hset : set < 2 ^ n) :
    ∀ (d i p : Nat), i + d = n → Sub p set → Ev (fun k => spec_l03Part.l0 k (set : Int) (p : Int) (i : Int) s l) ((iterN l set d p : Nat) : Int)
  | 0, i, p, hd, hp => by
    have hs := V.size
    refine Ev.step (f := fun _ => some ((p : Nat) : Int)) (fun k => ?_) (Ev.now _)
    simp only [spec_l03Part.l0]
    rw [if_neg (by omega)]
  | d + 1, i, p, hd, hp => by
    have hn := V.hi
    have hs := V.size
    have hpl := hp.lt hset
    have hnl := near_lt V hpl
    have e : Go.bits .and .i64 ((near l p : Nat) : Int) (set : Int) = ((grow l set p : Nat) : Int) := and_nat _ _ (small _ n hnl hn) (small _ n hset hn)
    have ih := spec_part_loop V hset d (i + 1) (grow l set p) (by omega) (grow_set l set p)
    refine Ev.step (fun k => by simp only [spec_l03Part.l0]; rw [if_pos (show (i : Int) < s by omega), next i (by omega)]) ?_
    refine Ev.bind (spec_near V hpl) ?_
    rw [e]
    exact ih
theorem spec_part_is {s : Int} {l : List Int} {n set v : Nat} (V : Valid s l n) (hset : set < 2 ^ n) (hv : set.testBit v = true) : Ev (fun k => spec_l03Part.f k s l (set : Int) (v : Int)) ((part l n set v : Nat) : Int) := by
  have hvn := bit_below hset hv
  have hn := V.hi
  unfold spec_l03Part.f
  simp only [show (0 : Int) ≤ (v : Int) by omega, if_true]
  rw [shl_one v (by omega)]
  exact spec_part_loop V hset n 0 (2 ^ v) (by omega) (sub_bit hv)
theorem impl_least_all : ∀ x : Fin 256, x.val ≠ 0 → impl_least.f ((x.val : Nat) : Int) = some ((low x.val : Nat) : Int) := by decide +kernel
theorem impl_least_is (x : Nat) (hx : x < 256) (h : x ≠ 0) : impl_least.f (x : Int) = some ((low x : Nat) : Int) := impl_least_all ⟨x, hx⟩ h
theorem spec_parts_loop {s : Int} {l : List Int} {n : Nat} (V : Valid s l n) :
    ∀ (d set : Nat) (out : List Nat), set < 2 ^ n → size set ≤ d → out.length + d ≤ 1000 → Ev (fun k => spec_l03Parts.l0 k (set : Int) (ints out) s l) (ints (partsN l n d set out))
  | 0, set, out, hset, hd, ho => by
    have hn := V.hi
    have h0 : set = 0 := by
      rcases Nat.eq_zero_or_pos set with h | h
      · exact h
      · have := size_pos hset hn (by omega)
        omega
    refine Ev.step (f := fun _ => some (ints out)) (fun k => ?_) (Ev.now _)
    simp only [spec_l03Parts.l0]
    rw [if_pos (by omega)]
  | d + 1, set, out, hset, hd, ho => by
    have hn := V.hi
    have h256 := pow_le_256 n hn
    unfold partsN
    by_cases h : set = 0
    · rw [if_pos h]
      refine Ev.step (f := fun _ => some (ints out)) (fun k => ?_) (Ev.now _)
      simp only [spec_l03Parts.l0]
      rw [if_pos (by omega)]
    · rw [if_neg h]
      have hl := low_mem hset hn h
      obtain ⟨t, ht⟩ := low_head hset hn h
      have hps := part_set l n set (low set) hl.2
      have hpl := hps.lt hset
      have hr := rest_less (l := l) hset hn h
      have hm := minus_is set _ (by omega) hps
      have ih := spec_parts_loop V d (minus set (part l n set (low set))) (out ++ [part l n set (low set)]) (minus_lt hset) (by omega) (by simp; omega)
      rw [ints_snoc] at ih
      refine Ev.step (fun k => by simp only [spec_l03Parts.l0]; rw [if_neg (show ¬ (set : Int) = 0 by omega)]) ?_
      refine Ev.bind (spec_list set (by omega)) ?_
      have hlen : (0 : Int) < ((ints (bitsOf set)).length : Int) := by rw [ints_length, ht]; simp
      have hrd : rd (ints (bitsOf set)) 0 = ((low set : Nat) : Int) := by rw [ht]; rfl
      simp only [hlen, hrd, if_true]
      refine Ev.bind (spec_part_is V hset hl.2) ?_
      have hol : (ints out).length < 17592186044416 := by rw [ints_length]; omega
      simp only [hol, if_true]
      rw [wrap_close _ (by omega) (by omega), show (set : Int) - ((part l n set (low set) : Nat) : Int) = ((minus set (part l n set (low set)) : Nat) : Int) by rw [hm]; have := hps.le; omega]
      exact ih

end Go.Proofs.YtbmpehclflbbaaaDoor.Pure
