/- What holds of paths, cycles, complete graphs, empty graphs and grids, and of the ends of all edges of the graph that the reference draws; no condition. -/
import Derived.Test.YtfnlbakeefcmeaaPWithout
import Derived.Test.YtfnlbakeefcmeaaPListI
import Derived.Test.YtfnlbakeefcmeaaPCount
import Derived.Test.YtfnlbakeefcmeaaXGraphs
import Derived.Test.YtfnlbakeefcmeaaQx5
import Derived.Test.YtfnlbakeefcmeaaQx10
import Derived.Test.YtfnlbakeefcmeaaQx11
namespace Go.Proofs.Ytfnlbakeefcmeaa.Pure
open Go.RowKit Go.Proofs.Ytfnlbakeefcmeaa.Q Go.Proofs.YtfnlbakeefcmeaaW.PrintWords Go.Proofs.YtfnlbakeefcmeaaW.PrintLast Go.Proofs.YtfnlbakeefcmeaaW.PrintMore

theorem valid_okB {s : Int} {l : List Int} {n : Nat} (V : Valid s l n) : okB s l = true := by
  have hl := V.len
  rw [okB_iff, hl]
  exact V
theorem valid_vB {s : Int} {l : List Int} {n v : Nat} (V : Valid s l n) (hv : v < n) : vB s (v : Int) = true := by
  rw [V.size, vB_iff]
  exact ⟨v, rfl, hv⟩
theorem nb_is {s : Int} {l : List Int} {n v : Nat} (V : Valid s l n) (hv : v < n) : Ev (fun k => impl_NeighborsOf.f k s l (v : Int)) (ints (bitsOf (rn l v))) := by
  have hh := impl_hold1 s l (v : Int)
  rw [valid_okB V, valid_vB V hv] at hh
  have hn := V.hi
  have hlen := V.len
  have h256 := pow_le_256 _ hn
  have hrow := V.lt v hv
  unfold impl_NeighborsOf.f
  refine Ev.bind hh ?_
  simp only [Bool.and_self, if_true, show (0 : Int) ≤ (v : Int) by omega, show (v : Int) < (l.length : Int) by omega]
  rw [V.row v hv]
  exact Ev.bind (impl_list _ (by omega)) (Ev.now _)
theorem he_is {s : Int} {l : List Int} {n v u : Nat} (V : Valid s l n) (hv : v < n) (hu : u < n) : Ev (fun k => impl_HasEdge.f k s l (v : Int) (u : Int)) ((rn l v).testBit u) := by
  have hh := impl_hold2 s l (v : Int) (u : Int)
  rw [valid_okB V, valid_vB V hv, valid_vB V hu] at hh
  have hn := V.hi
  have hlen := V.len
  unfold impl_HasEdge.f
  refine Ev.bind hh ?_
  rw [if_pos (by rfl), if_pos (by omega), if_pos (by omega), V.row v hv, impl_has_is _ u (small _ _ (V.lt v hv) hn) (by omega)]
  exact Ev.now _
theorem sumN_le (f : Nat → Nat) (h : ∀ i, f i ≤ 8) : ∀ n, sumN f n ≤ 8 * n
  | 0 => Nat.le_refl _
  | n + 1 => by
    have ih := sumN_le f h n
    have := h n
    unfold sumN
    omega
theorem sumN_mono (f : Nat → Nat) (n : Nat) : ∀ d, sumN f n ≤ sumN f (n + d)
  | 0 => Nat.le_refl _
  | d + 1 => Nat.le_trans (sumN_mono f n d) (Nat.le_add_right _ _)
theorem count_loop {s : Int} {l : List Int} {n : Nat} (V : Valid s l n) :
    ∀ (d i : Nat), i + d = n → Ev (fun k => impl_CountEdges.l0 k ((sumN (fun v => size (rn l v)) i : Nat) : Int) l (n : Int) (i : Int)) ((edges l n : Nat) : Int)
  | 0, i, hd => by
    have hn := V.hi
    have e : sumN (fun v => size (rn l v)) i = 2 * edges l n := by
      rw [show i = n by omega, ends_sizes V, ends_even V]
    have hb := sumN_le (fun v => size (rn l v)) (fun v => size_le _) i
    refine Ev.step (f := fun _ => some _) (fun k => ?_) (Ev.now _)
    simp only [impl_CountEdges.l0]
    rw [if_neg (by omega), e, Int.tdiv_eq_ediv_of_nonneg (by omega), show (((2 * edges l n : Nat) : Int)) / 2 = ((edges l n : Nat) : Int) by omega, wrap_close _ (by omega) (by omega)]
  | d + 1, i, hd => by
    have hn := V.hi
    have hlen := V.len
    have hs := size_le (rn l i)
    have hb := sumN_le (fun v => size (rn l v)) (fun v => size_le _) i
    have ih := count_loop V d (i + 1) (by omega)
    have e : ((sumN (fun v => size (rn l v)) i : Nat) : Int) + ((size (rn l i) : Nat) : Int) = ((sumN (fun v => size (rn l v)) (i + 1) : Nat) : Int) := by
      rw [show sumN (fun v => size (rn l v)) (i + 1) = sumN (fun v => size (rn l v)) i + size (rn l i) from rfl]
      omega
    refine Ev.step (fun k => ?_) ih
    simp only [impl_CountEdges.l0]
    rw [if_pos (by omega), if_pos (by omega), if_pos (by omega), V.row i (by omega), impl_size _ (Nat.lt_of_lt_of_le (V.lt i (by omega)) (pow_le_256 n hn)), Option.bind_some, wrap_close _ (by omega) (by omega), next i (by omega), e]
theorem ce_is {s : Int} {l : List Int} {n : Nat} (V : Valid s l n) : Ev (fun k => impl_CountEdges.f k s l) ((edges l n : Nat) : Int) := by
  have h := impl_ok s l
  rw [valid_okB V] at h
  have hl := V.len
  unfold impl_CountEdges.f
  refine Ev.bind h ?_
  rw [hl]
  exact count_loop V n 0 (by omega)
theorem edges_le {s : Int} {l : List Int} {n : Nat} (V : Valid s l n) : edges l n ≤ 32 := by
  have hn := V.hi
  have e : sumN (fun v => size (rn l v)) n = 2 * edges l n := by rw [ends_sizes V, ends_even V]
  have hb := sumN_le (fun v => size (rn l v)) (fun v => size_le _) n
  omega

/-- The law's own last words: the graph without a vertex. -/
theorem end_is (code : List Int) (hcode : code.length ≤ 2000000) {s : Int} {l : List Int} {n : Nat} (V : Valid s l n) :
    Ev (fun k => laws_FnGraphs.l0 k code ((sumN (fun v => size (rn l v)) n : Nat) : Int) (n : Int) s l) true := by
  have hn := V.hi
  have h0 := V.lo
  have hs := V.size
  obtain ⟨r, hr0, hr1, hr⟩ := num_ok code hcode 7 (by decide)
  obtain ⟨u, hu, hue⟩ : ∃ u : Nat, u < n ∧ Int.tmod r s = (u : Int) := by
    have h1 := Int.emod_nonneg r (show (n : Int) ≠ 0 by omega)
    have h2 := Int.emod_lt_of_pos r (show (0 : Int) < (n : Int) by omega)
    refine ⟨(r % (n : Int)).toNat, by omega, ?_⟩
    rw [hs, Int.tmod_eq_emod_of_nonneg hr0, Int.toNat_of_nonneg h1]
  have e : sumN (fun v => size (rn l v)) n = 2 * edges l n := by rw [ends_sizes V, ends_even V]
  have hel := edges_le V
  have hok := impl_ok s l
  rw [valid_okB V] at hok
  have hce := ce_is V
  have hnb := nb_is V hu
  have hsum : ((sumN (fun v => size (rn l v)) n : Nat) : Int) = wrap64 (2 * ((edges l n : Nat) : Int)) := by
    rw [e, wrap_close _ (by omega) (by omega)]
    omega
  refine Ev.step (fun k => by simp only [laws_FnGraphs.l0]; rw [if_neg (show ¬ (n : Int) < s by omega)]) ?_
  refine Ev.bind hr ?_
  rw [hue]
  refine Ev.congr (fun k => if_neg (show ¬ s = 0 by omega)) ?_
  by_cases hn1 : n = 1
  · subst hn1
    have hw := without_no V u hu
    refine Ev.bind hw ?_
    refine Ev.bind hok ?_
    refine Ev.congr (fun k => if_pos rfl) ?_
    refine Ev.bind hce ?_
    refine Ev.congr (fun k => by rw [if_pos hsum, if_pos (by rw [hs]; decide), if_neg (by decide)]) ?_
    exact Ev.now _
  · obtain ⟨m, rfl⟩ : ∃ m, n = m + 1 := ⟨n - 1, by omega⟩
    obtain ⟨g, Vg, hg, hw⟩ := without_is V u hu (by omega)
    have hskip := edges_skip V Vg hu hg
    have hokg := impl_ok (m : Int) g
    rw [valid_okB Vg] at hokg
    have hceg := ce_is Vg
    refine Ev.bind hw ?_
    refine Ev.bind hok ?_
    refine Ev.congr (fun k => if_pos rfl) ?_
    refine Ev.bind hce ?_
    refine Ev.congr (fun k => by rw [if_pos hsum, if_pos (by rw [decide_eq_true (show s > 1 by omega)]; rfl), if_pos (by rfl)]) ?_
    refine Ev.bind hokg ?_
    refine Ev.congr (fun k => if_pos rfl) ?_
    refine Ev.bind hceg ?_
    refine Ev.bind hce ?_
    refine Ev.bind hnb ?_
    have hsz : (ints (bitsOf (rn l u))).length = size (rn l u) := by rw [ints_length]; rfl
    have hfin : (((edges g m : Nat) : Int) == wrap64 (((edges l (m + 1) : Nat) : Int) - ((ints (bitsOf (rn l u))).length : Int))) = true := by
      rw [hsz, hskip, wrap_close _ (by omega) (by omega), beq_iff_eq]
      omega
    rw [hfin]
    exact Ev.now _
theorem row_is (code : List Int) {s : Int} {l : List Int} {n v : Nat} (V : Valid s l n) (hv : v < n) (c : Nat) (hc : c ≤ 1000)
    (hnext : Ev (fun k => laws_FnGraphs.l0 k code (((c + size (rn l v) : Nat)) : Int) ((v + 1 : Nat) : Int) s l) true) :
    ∀ (d i : Nat), i + d = (bitsOf (rn l v)).length → Ev (fun k => laws_FnGraphs.l1 k code (c : Int) (v : Int) (ints (bitsOf (rn l v))) (ints (bitsOf (rn l v))) ((ints (bitsOf (rn l v))).length : Int) (i : Int) s l) true
  | 0, i, hd => by
    have hn := V.hi
    have h8 := bitsOf_length (rn l v)
    refine Ev.step (fun k => ?_) hnext
    simp only [laws_FnGraphs.l1]
    rw [if_neg (by rw [ints_length]; omega), next v (by omega), ints_length, wrap_close _ (by omega) (by omega), show ((c + size (rn l v) : Nat) : Int) = (c : Int) + ((bitsOf (rn l v)).length : Int) by unfold size; omega]
  | d + 1, i, hd => by
    have hn := V.hi
    have h8 := bitsOf_length (rn l v)
    have hi : i < (bitsOf (rn l v)).length := by omega
    have hm := (bitsOf_mem (rn l v) n _ (V.lt v hv) hn).mp (List.getElem_mem hi)
    have ih := row_is code V hv c hc hnext d (i + 1) (by omega)
    have hhe := he_is V hm.1 hv
    rw [← V.sym v _ hv hm.1, hm.2] at hhe
    have h := Ev.bind (f := fun k t => if t = true then (laws_FnGraphs.l1 k code (c : Int) (v : Int) (ints (bitsOf (rn l v))) (ints (bitsOf (rn l v))) ((ints (bitsOf (rn l v))).length : Int) (wrap64 ((i : Int) + 1)) s l) else some false) hhe (by rw [next i (by omega)]; exact Ev.congr (fun k => if_pos rfl) ih)
    refine Ev.step (fun k => ?_) h
    simp only [laws_FnGraphs.l1]
    rw [if_pos (by rw [ints_length]; omega), if_pos (by omega), if_pos (by rw [ints_length]; omega), ints_at _ i hi]
theorem rows_are (code : List Int) (hcode : code.length ≤ 2000000) {s : Int} {l : List Int} {n : Nat} (V : Valid s l n) :
    ∀ (d v : Nat), v + d = n → Ev (fun k => laws_FnGraphs.l0 k code ((sumN (fun v => size (rn l v)) v : Nat) : Int) (v : Int) s l) true
  | 0, v, hd => by
    obtain rfl : v = n := by omega
    exact end_is code hcode V
  | d + 1, v, hd => by
    have hn := V.hi
    have hs := V.size
    have hb := sumN_le (fun v => size (rn l v)) (fun v => size_le _) v
    have ih := rows_are code hcode V d (v + 1) (by omega)
    have hr := row_is code V (v := v) (by omega) (sumN (fun v => size (rn l v)) v) (by omega) ih (bitsOf (rn l v)).length 0 (by omega)
    have h := Ev.bind (f := fun k t => laws_FnGraphs.l1 k code ((sumN (fun v => size (rn l v)) v : Nat) : Int) (v : Int) t t (t.length : Int) 0 s l) (nb_is V (v := v) (by omega)) hr
    refine Ev.step (fun k => ?_) h
    simp only [laws_FnGraphs.l0]
    rw [if_pos (by omega)]

/-- Does a maker give a graph with c edges. -/
def madeB (o : Nat → Option (Int × List Int × Bool)) (c : Int) : Bool :=
  match o 200 with
  | some (s, l, true) => impl_CountEdges.f 200 s l == some c
  | _ => false
theorem made {o : Nat → Option (Int × List Int × Bool)} {c : Int} (hm : ∀ k, LeO (o k) (o (k + 1))) (h : madeB o c = true) : ∃ s l, Ev o (s, l, true) ∧ Ev (fun k => impl_CountEdges.f k s l) c := by
  unfold madeB at h
  split at h
  · rename_i s l e
    exact ⟨s, l, Ev.of hm e, Ev.of (fun k => impl_CountEdges.mono s l k) (beq_iff_eq.mp h)⟩
  · cases h
theorem path_all : ∀ n : Fin 8, madeB (fun k => impl_PathGraph.f k ((n.val + 1 : Nat) : Int)) (wrap64 (((n.val + 1 : Nat) : Int) - 1)) = true := by decide +kernel
theorem cycle_all : ∀ n : Fin 8, madeB (fun k => impl_CycleGraph.f k ((n.val + 1 : Nat) : Int)) (if ((n.val + 1 : Nat) : Int) < 3 then wrap64 (((n.val + 1 : Nat) : Int) - 1) else ((n.val + 1 : Nat) : Int)) = true := by decide +kernel
theorem complete_all : ∀ n : Fin 8, madeB (fun k => impl_CompleteGraph.f k ((n.val + 1 : Nat) : Int)) (wrap64 (Int.tdiv (wrap64 (((n.val + 1 : Nat) : Int) * (wrap64 (((n.val + 1 : Nat) : Int) - 1)))) 2)) = true := by decide +kernel
theorem empty_all : ∀ n : Fin 8, madeB (fun k => impl_EmptyGraph.f k ((n.val + 1 : Nat) : Int)) 0 = true := by decide +kernel
theorem grid_all : ∀ (w : Fin 2) (h : Fin 4), madeB (fun k => impl_GridGraph.f k ((w.val + 1 : Nat) : Int) ((h.val + 1 : Nat) : Int)) (wrap64 ((wrap64 ((wrap64 (((w.val + 1 : Nat) : Int) - 1)) * ((h.val + 1 : Nat) : Int))) + (wrap64 (((w.val + 1 : Nat) : Int) * (wrap64 (((h.val + 1 : Nat) : Int) - 1)))))) = true := by decide +kernel
theorem one_of (r : Int) (m : Nat) (h0 : 0 ≤ r) (hm : 0 < m) (h8 : m ≤ 8) : ∃ n : Fin m, wrap64 (1 + Int.tmod r (m : Int)) = ((n.val + 1 : Nat) : Int) := by
  have h1 := Int.emod_nonneg r (show (m : Int) ≠ 0 by omega)
  have h2 := Int.emod_lt_of_pos r (show (0 : Int) < (m : Int) by omega)
  refine ⟨⟨(r % (m : Int)).toNat, by omega⟩, ?_⟩
  rw [Int.tmod_eq_emod_of_nonneg h0, wrap_close _ (by omega) (by omega)]
  show _ = (((r % (m : Int)).toNat + 1 : Nat) : Int)
  omega

theorem FnGraphs : laws_FnGraphs.Pure := by
  intro code _ _ _
  refine Ev.rounds (r := true) ?_
  by_cases hbig : (code.length : Int) > 1048576
  · exact Ev.congr (fun k => by unfold laws_FnGraphs.f; rw [if_pos hbig]) (Ev.now _)
  · refine Ev.congr (fun k => by unfold laws_FnGraphs.f; rw [if_neg hbig]) ?_
    have hcode : code.length ≤ 2000000 := by omega
    obtain ⟨r1, hr10, _, hr1⟩ := num_ok code hcode 1 (by decide)
    obtain ⟨r3, hr30, _, hr3⟩ := num_ok code hcode 3 (by decide)
    obtain ⟨r5, hr50, _, hr5⟩ := num_ok code hcode 5 (by decide)
    obtain ⟨n, hn⟩ := one_of r1 8 hr10 (by decide) (by decide)
    obtain ⟨w, hw⟩ := one_of r3 2 hr30 (by decide) (by decide)
    obtain ⟨h, hh⟩ := one_of r5 4 hr50 (by decide) (by decide)
    replace hn : wrap64 (1 + Int.tmod r1 8) = ((n.val + 1 : Nat) : Int) := hn
    replace hw : wrap64 (1 + Int.tmod r3 2) = ((w.val + 1 : Nat) : Int) := hw
    replace hh : wrap64 (1 + Int.tmod r5 4) = ((h.val + 1 : Nat) : Int) := hh
    obtain ⟨s1, l1, g1, c1⟩ := made (impl_PathGraph.mono _) (path_all n)
    obtain ⟨s2, l2, g2, c2⟩ := made (impl_CycleGraph.mono _) (cycle_all n)
    obtain ⟨s3, l3, g3, c3⟩ := made (impl_CompleteGraph.mono _) (complete_all n)
    obtain ⟨s4, l4, g4, c4⟩ := made (impl_EmptyGraph.mono _) (empty_all n)
    obtain ⟨s5, l5, g5, c5⟩ := made (impl_GridGraph.mono _ _) (grid_all w h)
    obtain ⟨s, l, m, V, hg⟩ := graph_ok code hcode 20 (by decide)
    have hj1 : Ev (fun k => laws_FnGraphs.j1 k code false) true := by
      have h := Ev.bind (f := fun k (t : Int × List Int) => laws_FnGraphs.l0 k code 0 0 t.1 t.2) hg (rows_are code hcode V m 0 (by omega))
      refine Ev.step (fun k => ?_) h
      simp only [laws_FnGraphs.j1]
      rw [if_neg (show ¬ false = true by decide)]
      rfl
    have hj0 : ∀ x16, x16 = (if ((n.val + 1 : Nat) : Int) < 3 then wrap64 (((n.val + 1 : Nat) : Int) - 1) else ((n.val + 1 : Nat) : Int)) →
        Ev (fun k => laws_FnGraphs.j0 k code ((n.val + 1 : Nat) : Int) true true true true ((w.val + 1 : Nat) : Int) ((h.val + 1 : Nat) : Int) true x16 s1 l1 s2 l2 s3 l3 s4 l4 s5 l5) true := fun x16 hx => by
      subst hx
      refine Ev.step (fun k => by simp only [laws_FnGraphs.j0, if_true]; rfl) ?_
      refine Ev.bind c1 ?_
      refine Ev.congr (fun k => if_pos rfl) ?_
      refine Ev.bind c2 ?_
      refine Ev.congr (fun k => if_pos rfl) ?_
      refine Ev.bind c3 ?_
      refine Ev.congr (fun k => if_pos rfl) ?_
      refine Ev.bind c4 ?_
      refine Ev.congr (fun k => if_pos rfl) ?_
      refine Ev.bind c5 ?_
      refine Ev.congr (fun k => by rw [bne_self_eq_false]) hj1
    refine Ev.bind hr1 ?_
    rw [hn]
    refine Ev.bind g1 ?_
    refine Ev.bind g2 ?_
    refine Ev.bind g3 ?_
    refine Ev.bind g4 ?_
    refine Ev.bind hr3 ?_
    refine Ev.bind hr5 ?_
    rw [hw, hh]
    refine Ev.bind g5 ?_
    by_cases h3 : ((n.val + 1 : Nat) : Int) < 3
    · exact Ev.congr (fun k => if_pos h3) (hj0 _ (by rw [if_pos h3]))
    · exact Ev.congr (fun k => if_neg h3) (hj0 _ (by rw [if_neg h3]))

end Go.Proofs.Ytfnlbakeefcmeaa.Pure
