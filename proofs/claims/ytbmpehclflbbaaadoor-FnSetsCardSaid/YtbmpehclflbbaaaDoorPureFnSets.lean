/- What holds of the linked parts of a drawn set in the graph that the reference draws; no condition. -/
import Derived.Test.YtbmpehclflbbaaaDoorPLinks
import Derived.Test.YtbmpehclflbbaaaDoorPMakeG
import Derived.Test.YtbmpehclflbbaaaDoorQx24
namespace Go.Proofs.YtbmpehclflbbaaaDoor.Pure
open Go.RowKit Go.Proofs.YtbmpehclflbbaaaDoor.Q Go.Proofs.YtbmpehclflbbaaaDoorW.PrintWords Go.Proofs.YtbmpehclflbbaaaDoorW.PrintLast Go.Proofs.YtbmpehclflbbaaaDoorW.PrintMore

theorem ints_take (ps : List Nat) (i : Nat) : (ints ps).take i = ints (ps.take i) := by simp [ints]
/-- The earlier parts all keep away from p. -/
theorem sets_in {s : Int} {l : List Int} {n p : Nat} (V : Valid s l n) (hp : p < 2 ^ n) (x4 x5 : Int) (x6 : List Int) (x7 : Int) (x35 : List Int) (x36 x37 : Int) (qs : List Nat) (hq : ∀ q ∈ qs, q < 2 ^ n ∧ near l q &&& p = 0) (h8 : qs.length ≤ 100) (r : Bool)
    (hR : Ev (fun k => laws_FnSets.l0 k x4 x5 x6 (Go.bits .or .i64 x7 (p : Int)) x35 x36 (wrap64 (x37 + 1)) s l) r) :
    ∀ (d i : Nat), i + d = qs.length → Ev (fun k => laws_FnSets.l1 k x4 x5 x6 x7 (p : Int) x35 x36 x37 (ints qs) (qs.length : Int) (i : Int) s l) r
  | 0, i, hd => by
    refine Ev.step (fun k => ?_) hR
    simp only [laws_FnSets.l1]
    rw [if_neg (by omega)]
  | d + 1, i, hd => by
    have hn := V.hi
    have hi : i < qs.length := by omega
    have ih := sets_in V hp x4 x5 x6 x7 x35 x36 x37 qs hq h8 r hR d (i + 1) (by omega)
    obtain ⟨hq1, hq2⟩ := hq qs[i] (List.getElem_mem hi)
    have hand : Go.bits .and .i64 ((near l qs[i] : Nat) : Int) (p : Int) = 0 := by
      rw [and_nat _ _ (small _ n (near_lt V hq1) hn) (small p n hp hn), hq2]
      rfl
    refine Ev.step (fun k => by simp only [laws_FnSets.l1]; rw [if_pos (show (i : Int) < (qs.length : Int) by omega), if_pos (show (0 : Int) ≤ (i : Int) by omega), if_pos (show (i : Int) < ((ints qs).length : Int) by rw [ints_length]; omega), ints_at qs i hi, next i (by omega)]) ?_
    refine Ev.bind (around_is V hq1) ?_
    simp only [hand, if_true]
    exact ih
theorem sets_out {s : Int} {l : List Int} {n y z : Nat} (V : Valid s l n) (hy : y < 2 ^ n) (hz : z < 2 ^ n) (hyz : Sub y z) (ps : List Nat) (h8 : ps.length ≤ 100)
    (hp : ∀ p ∈ ps, p < 2 ^ n ∧ linkB l n p = true) (hpw : ps.Pairwise (fun q p => near l q &&& p = 0)) (hall : ∀ i, (∃ p ∈ ps, p.testBit i = true) ↔ y.testBit i = true) (hlen : ((ps.length : Int) == 1) = linkB l n y) :
    ∀ (d i m : Nat), i + d = ps.length → (∀ j, m.testBit j = true ↔ ∃ p ∈ ps.take i, p.testBit j = true) →
      Ev (fun k => laws_FnSets.l0 k (y : Int) (z : Int) (ints ps) (m : Int) (ints ps) (ps.length : Int) (i : Int) s l) true
  | 0, i, m, hd, hm => by
    have hn := V.hi
    have hs := V.size
    have h256 := pow_le_256 n hn
    have hp2 : 0 < 2 ^ n := Nat.two_pow_pos n
    have hmy : m = y := by
      apply Nat.eq_of_testBit_eq
      intro j
      rw [Bool.eq_iff_iff, hm j, List.take_of_length_le (by omega), hall j]
    subst hmy
    have hsub : Sub m (near l m) := fun j hj => (near_bit l m j).mpr (.inl hj)
    have hnm := near_lt V hy
    have hnz := near_lt V hz
    have hand : Go.bits .and .i64 ((near l m : Nat) : Int) (m : Int) = (m : Int) := by
      rw [and_nat _ _ (small _ n hnm hn) (small m n hy hn), Nat.and_comm, hsub.and]
    have hnot : Go.bits .andNot .i64 ((near l m : Nat) : Int) ((near l z : Nat) : Int) = 0 := by
      rw [andNot_nat _ _ (small _ n hnm hn) (small _ n hnz hn), (without_empty _ _ (small _ n hnm hn) (small _ n hnz hn)).mpr (by rw [Nat.and_comm]; exact (near_mono hz hn hyz).and)]
      rfl
    have hfull : wrap64 (shl .i64 1 s - 1) = ((2 ^ n - 1 : Nat) : Int) := by rw [hs]; exact full_val n hn
    refine Ev.step (fun k => by simp only [laws_FnSets.l0]; rw [if_neg (show ¬ (i : Int) < (ps.length : Int) by omega)]) ?_
    refine Ev.bind (around_is V hy) ?_
    refine Ev.bind (impl_set s l m) ?_
    rw [valid_set V hy]
    refine Ev.congr (fun k => by rw [if_pos rfl, if_pos trivial, hand, if_pos rfl]) ?_
    refine Ev.bind (around_is V hz) ?_
    refine Ev.congr (fun k => by rw [hnot, if_pos rfl]) ?_
    refine Ev.bind (linked_is V hy) ?_
    have hlen2 : (linkB l n m == (((ints ps).length : Int) == 1)) = true := by
      rw [ints_length, hlen]
      exact beq_self_eq_true _
    refine Ev.congr (fun k => by rw [if_pos hlen2]) ?_
    refine Ev.bind (dom_is V hy) ?_
    have hd2 : ((near l m == 2 ^ n - 1) == (((near l m : Nat) : Int) == wrap64 (shl .i64 1 s - 1))) = true := by
      rw [hfull, show (((near l m : Nat) : Int) == ((2 ^ n - 1 : Nat) : Int)) = (near l m == 2 ^ n - 1) by rw [Bool.eq_iff_iff, beq_iff_eq, beq_iff_eq]; omega]
      exact beq_self_eq_true _
    refine Ev.congr (fun k => by rw [if_pos (show 0 ≤ s by omega), hd2]) (Ev.now _)
  | d + 1, i, m, hd, hm => by
    have hn := V.hi
    have hi : i < ps.length := by omega
    obtain ⟨hp1, hp2⟩ := hp ps[i] (List.getElem_mem hi)
    have hmn : m < 2 ^ n := by
      apply Nat.lt_pow_two_of_testBit
      intro j hj
      cases hb : m.testBit j with
      | false => rfl
      | true =>
        obtain ⟨p, h1, h2⟩ := (hm j).mp hb
        have := bit_below (hp p (List.mem_of_mem_take h1)).1 h2
        omega
    have hearlier : ∀ q ∈ ps.take i, q < 2 ^ n ∧ near l q &&& ps[i] = 0 := by
      intro q hq
      refine ⟨(hp q (List.mem_of_mem_take hq)).1, ?_⟩
      obtain ⟨j, hj, rfl⟩ := List.getElem_of_mem hq
      have hj2 : j < i := by rw [List.length_take] at hj; omega
      rw [List.getElem_take]
      exact List.pairwise_iff_getElem.mp hpw j i (by omega) hi hj2
    have hand : Go.bits .and .i64 (m : Int) (ps[i] : Int) = 0 := by
      rw [and_nat _ _ (small m n hmn hn) (small _ n hp1 hn), and_zero.mpr (fun j hj => ?_)]
      · rfl
      · obtain ⟨q, h1, h2⟩ := (hm j).mp hj
        exact and_zero.mp (hearlier q h1).2 j ((near_bit l q j).mpr (.inl h2))
    have hor : Go.bits .or .i64 (m : Int) (ps[i] : Int) = ((m ||| ps[i] : Nat) : Int) := or_nat _ _ (small m n hmn hn) (small _ n hp1 hn)
    have ih := sets_out V hy hz hyz ps h8 hp hpw hall hlen d (i + 1) (m ||| ps[i]) (by omega) (fun j => by
      rw [Nat.testBit_or, Bool.or_eq_true, hm j, List.take_succ_eq_append_getElem hi]
      constructor
      · rintro (⟨q, h1, h2⟩ | h)
        · exact ⟨q, List.mem_append_left _ h1, h2⟩
        · exact ⟨ps[i], List.mem_append_right _ List.mem_cons_self, h⟩
      · rintro ⟨q, h1, h2⟩
        rcases List.mem_append.mp h1 with h1 | h1
        · exact .inl ⟨q, h1, h2⟩
        · rw [List.mem_singleton] at h1
          exact .inr (h1 ▸ h2))
    have hin := sets_in V hp1 (y : Int) (z : Int) (ints ps) (m : Int) (ints ps) (ps.length : Int) (i : Int) (ps.take i) hearlier (by rw [List.length_take]; omega) true (by rw [hor, next i (by omega)]; exact ih) (ps.take i).length 0 (by omega)
    refine Ev.step (fun k => by simp only [laws_FnSets.l0]; rw [if_pos (show (i : Int) < (ps.length : Int) by omega), if_pos (show (0 : Int) ≤ (i : Int) by omega), if_pos (show (i : Int) < ((ints ps).length : Int) by rw [ints_length]; omega), ints_at ps i hi]) ?_
    refine Ev.bind (linked_is V hp1) ?_
    rw [hp2]
    refine Ev.congr (fun k => by rw [if_pos rfl, hand]) ?_
    refine Ev.step (fun k => ?_) hin
    simp only [laws_FnSets.j1]
    rw [if_neg (show ¬ ((0 : Int) != 0) = true by decide), if_pos (show (0 : Int) ≤ (i : Int) by omega), if_pos (show (i : Int) ≤ ((ints ps).length : Int) by rw [ints_length]; omega), Option.bind_some, Int.toNat_natCast, ints_take, ints_length]
    rfl

theorem FnSets : laws_FnSets.Pure := by
  intro code _ _ _
  refine Ev.rounds (r := true) ?_
  by_cases hbig : (code.length : Int) > 1048576
  · exact Ev.congr (fun k => by unfold laws_FnSets.f; rw [if_pos hbig]) (Ev.now _)
  · refine Ev.congr (fun k => by unfold laws_FnSets.f; rw [if_neg hbig]) ?_
    have hcode : code.length ≤ 2000000 := by omega
    obtain ⟨s, l, n, V, hg⟩ := graph_ok code hcode 0 (by decide)
    have hn := V.hi
    have hs := V.size
    have h256 := pow_le_256 n hn
    have hp : 0 < 2 ^ n := Nat.two_pow_pos n
    have hmod : ∀ r : Int, 0 ≤ r → ∃ x : Nat, x < 2 ^ n ∧ Int.tmod r (shl .i64 1 s) = (x : Int) := by
      intro r hr0
      refine ⟨(r % ((2 ^ n : Nat) : Int)).toNat, ?_, ?_⟩
      · have h1 := Int.emod_nonneg r (show ((2 ^ n : Nat) : Int) ≠ 0 by omega)
        have h2 := Int.emod_lt_of_pos r (show (0 : Int) < ((2 ^ n : Nat) : Int) by omega)
        omega
      · have h1 := Int.emod_nonneg r (show ((2 ^ n : Nat) : Int) ≠ 0 by omega)
        rw [hs, shl_one n (by omega), Int.tmod_eq_emod_of_nonneg hr0, Int.toNat_of_nonneg h1]
    have hz : ¬ shl .i64 1 s = 0 := by
      rw [hs, shl_one n (by omega)]
      omega
    obtain ⟨r, hr0, _, hr⟩ := num_ok code hcode 30 (by decide)
    obtain ⟨r', hr0', _, hr'⟩ := num_ok code hcode 32 (by decide)
    obtain ⟨y, hy, hye⟩ := hmod r hr0
    obtain ⟨y', hy', hye'⟩ := hmod r' hr0'
    refine Ev.bind hg ?_
    refine Ev.bind hr ?_
    refine Ev.congr (fun k => by rw [if_pos (show 0 ≤ s by omega), if_neg hz]) ?_
    refine Ev.bind hr' ?_
    rw [hye, hye', or_nat _ _ (small y n hy hn) (small y' n hy' hn)]
    refine Ev.bind (parts_is V hy) ?_
    obtain ⟨h1, h2, h3⟩ := parts_good V 8 y [] hy (size_le y) (fun p h => absurd h List.not_mem_nil) List.Pairwise.nil
    have hlen := partsN_length l n 8 y []
    have hlink := link_one (l := l) hy hn
    generalize partsN l n 8 y [] = ps at h1 h2 h3 hlen hlink
    rw [ints_length]
    exact sets_out V hy (or_lt n _ _ hy hy') (fun i hi => by rw [Nat.testBit_or, hi]; rfl) ps (by simp at hlen; omega) h1 h2 (fun i => by rw [h3 i]; simp) hlink ps.length 0 0 (by omega) (fun j => by rw [Nat.zero_testBit]; simp)

end Go.Proofs.YtbmpehclflbbaaaDoor.Pure
