/- The graph that the reference draws is a valid graph; condition: a code of at most two million bytes. -/
import Derived.Test.YtfnlbakeefcmeaaPBelow
import Derived.Test.YtfnlbakeefcmeaaPOk
import Derived.Test.YtfnlbakeefcmeaaQx6
import Derived.Test.YtfnlbakeefcmeaaQx7
import Derived.Test.YtfnlbakeefcmeaaQx8
import Derived.Test.YtfnlbakeefcmeaaQx10
namespace Go.Proofs.Ytfnlbakeefcmeaa.Pure
open Go.RowKit Go.Proofs.Ytfnlbakeefcmeaa.Q Go.Proofs.YtfnlbakeefcmeaaW.PrintWords Go.Proofs.YtfnlbakeefcmeaaW.PrintLast Go.Proofs.YtfnlbakeefcmeaaW.PrintMore

theorem rd_same (l : List Int) (i : Nat) (x : Int) (h : i < l.length) : rd (l.set i x) (i : Int) = x := by
  unfold rd
  rw [Int.toNat_natCast, List.getD_eq_getElem?_getD, List.getElem?_set_self h]
  rfl
theorem rd_other (l : List Int) (i j : Nat) (x : Int) (h : i ≠ j) : rd (l.set i x) (j : Int) = rd l (j : Int) := by
  unfold rd
  rw [Int.toNat_natCast, List.getD_eq_getElem?_getD, List.getElem?_set_ne h, List.getD_eq_getElem?_getD]
theorem rn_of (l : List Int) (v x : Nat) (h : rd l (v : Int) = (x : Int)) : rn l v = x := by
  unfold rn
  rw [h, Int.toNat_natCast]
/-- An edge more: still a valid graph. -/
theorem valid_join {s : Int} {l : List Int} {n v w : Nat} (V : Valid s l n) (hv : v < n) (hw : w < n) (hvw : v ≠ w) :
    ∃ l', spec_l02Join.f s l (v : Int) (w : Int) = some l' ∧ Valid s l' n ∧ ∀ u, u < n → ∀ i, (rn l' u).testBit i = ((rn l u).testBit i || ((v == u && w == i) || (w == u && v == i))) := by
  have hlen := V.len
  have hn := V.hi
  have hA : Go.bits .or .i64 (rd l (v : Int)) (shl .i64 1 (w : Int)) = ((rn l v ||| 2 ^ w : Nat) : Int) := by
    rw [shl_one w (by omega), V.row v hv, or_nat _ _ (small _ n (V.lt v hv) hn) (small _ n (bit_lt n w hw) hn)]
  have hB : Go.bits .or .i64 (rd (l.set v ((rn l v ||| 2 ^ w : Nat) : Int)) (w : Int)) (shl .i64 1 (v : Int)) = ((rn l w ||| 2 ^ v : Nat) : Int) := by
    rw [shl_one v (by omega), rd_other l v w _ hvw, V.row w hw, or_nat _ _ (small _ n (V.lt w hw) hn) (small _ n (bit_lt n v hv) hn)]
  refine ⟨(l.set v ((rn l v ||| 2 ^ w : Nat) : Int)).set w ((rn l w ||| 2 ^ v : Nat) : Int), ?_, ?_⟩
  · unfold spec_l02Join.f
    rw [if_pos (by omega), if_pos (by omega), if_pos (by omega), Option.bind_some, if_pos (by omega), Int.toNat_natCast, Int.toNat_natCast, hA, hB]
  · have hrd : ∀ u, u < n → rd ((l.set v ((rn l v ||| 2 ^ w : Nat) : Int)).set w ((rn l w ||| 2 ^ v : Nat) : Int)) (u : Int) = ((if w = u then rn l w ||| 2 ^ v else if v = u then rn l v ||| 2 ^ w else rn l u : Nat) : Int) := by
      intro u hu
      by_cases h1 : w = u
      · subst h1
        rw [if_pos rfl, rd_same _ _ _ (by rw [List.length_set]; omega)]
      · rw [if_neg h1, rd_other _ _ _ _ h1]
        by_cases h2 : v = u
        · subst h2
          rw [if_pos rfl, rd_same _ _ _ (by omega)]
        · rw [if_neg h2, rd_other _ _ _ _ h2, V.row u hu]
    have hl' : ((l.set v ((rn l v ||| 2 ^ w : Nat) : Int)).set w ((rn l w ||| 2 ^ v : Nat) : Int)).length = n := by rw [List.length_set, List.length_set, hlen]
    generalize (l.set v ((rn l v ||| 2 ^ w : Nat) : Int)).set w ((rn l w ||| 2 ^ v : Nat) : Int) = l' at hrd hl' ⊢
    have hrn : ∀ u, u < n → rn l' u = if w = u then rn l w ||| 2 ^ v else if v = u then rn l v ||| 2 ^ w else rn l u := fun u hu => rn_of l' u _ (hrd u hu)
    have hbit : ∀ u, u < n → ∀ i, (rn l' u).testBit i = ((rn l u).testBit i || ((v == u && w == i) || (w == u && v == i))) := by
      intro u hu i
      rw [hrn u hu]
      by_cases h1 : w = u
      · subst h1
        have h2 : (v == w) = false := by simpa using hvw
        rw [if_pos rfl, Nat.testBit_or, Nat.testBit_two_pow, h2]
        simp
        rfl
      · rw [if_neg h1]
        have h1b : (w == u) = false := by simpa using h1
        by_cases h2 : v = u
        · subst h2
          rw [if_pos rfl, Nat.testBit_or, Nat.testBit_two_pow, h1b]
          simp
          rfl
        · rw [if_neg h2]
          have h2b : (v == u) = false := by simpa using h2
          rw [h1b, h2b]
          simp
    refine ⟨⟨V.size, V.lo, V.hi, ?_, fun u hu => by rw [hrn u hu]; exact hrd u hu, fun u hu => ?_, fun u hu => ?_, fun u i hu hi => ?_⟩, hbit⟩
    · exact hl'
    · rw [hrn u hu]
      split
      · exact or_lt n _ _ (V.lt w hw) (bit_lt n v hv)
      · split
        · exact or_lt n _ _ (V.lt v hv) (bit_lt n w hw)
        · exact V.lt u hu
    · rw [hbit u hu, V.irr u hu]
      by_cases h1 : w = u
      · subst h1
        have h2 : (v == w) = false := by simpa using hvw
        rw [h2]
        simp
      · have h1b : (w == u) = false := by simpa using h1
        rw [h1b]
        simp
    · rw [hbit u hu, hbit i hi, V.sym u i hu hi]
      cases (rn l i).testBit u <;> cases (v == u) <;> cases (w == i) <;> cases (w == u) <;> cases (v == i) <;> rfl
theorem rd_zero (n : Nat) (v : Nat) : rd (List.replicate n 0) (v : Int) = 0 := by
  unfold rd
  rw [Int.toNat_natCast, List.getD_eq_getElem?_getD, List.getElem?_replicate]
  split <;> rfl
theorem valid_empty (n : Nat) (h1 : 1 ≤ n) (h8 : n ≤ 8) : Valid (n : Int) (List.replicate n 0) n := by
  have hz : ∀ v, rn (List.replicate n 0) v = 0 := fun v => rn_of _ v 0 (rd_zero n v)
  refine ⟨rfl, h1, h8, List.length_replicate, fun v _ => by rw [hz, rd_zero]; rfl, fun v _ => by rw [hz]; exact Nat.two_pow_pos n, fun v _ => by rw [hz, Nat.zero_testBit], fun v w _ _ => by rw [hz, hz, Nat.zero_testBit, Nat.zero_testBit]⟩
theorem once_ok (l : List Int) (i h : Int) (n : Nat) (hl : l.length ≤ 2000000) (hi : StOk l i) (h1 : 1 ≤ n) (h2 : n ≤ 256) : ∃ (b : Bool) (i' h' : Int), spec_l01Once.f l i h (n : Int) = some (b, i', h') ∧ StOk l i' := by
  obtain ⟨x, i', h', hb, _, hs⟩ := below_ok l i h n hl hi h1 h2
  exact ⟨_, i', h', by unfold spec_l01Once.f; rw [hb]; rfl, hs⟩
theorem draw_more (l : List Int) (hl : l.length ≤ 2000000) (s : Int) (n : Nat) : ∀ (d : Nat) (g : List Int) (i h : Int), Valid s g n → StOk l i → d ≤ 1000 →
    ∃ g' i' h', Valid s g' n ∧ Ev (fun k => spec_l02Draw.l1 k (n : Int) (d : Int) l i h s g) (s, g', i', h')
  | 0, g, i, h, V, hi, _ => by
    refine ⟨g, i, h, V, Ev.step (f := fun _ => some (s, g, i, h)) (fun k => ?_) (Ev.now _)⟩
    simp only [spec_l02Draw.l1]
    rw [if_neg (by omega)]
  | d + 1, g, i, h, V, hi, hd => by
    have hn := V.hi
    have h0 := V.lo
    obtain ⟨x, i1, h1, e1, hx, hs1⟩ := below_ok l i h n hl hi h0 (by omega)
    obtain ⟨y, i2, h2, e2, hy, hs2⟩ := below_ok l i1 h1 n hl hs1 h0 (by omega)
    have hw : wrap64 (((d + 1 : Nat) : Int) - 1) = (d : Int) := by rw [wrap_close _ (by omega) (by omega)]; omega
    by_cases hxy : x = y
    · obtain ⟨g', i', h', V', ih⟩ := draw_more l hl s n d g i2 h2 V hs2 (by omega)
      refine ⟨g', i', h', V', Ev.step (fun k => ?_) ih⟩
      simp only [spec_l02Draw.l1]
      rw [if_pos (by omega), e1, Option.bind_some, e2, Option.bind_some, if_pos (show (x : Int) = (y : Int) by omega), hw]
    · obtain ⟨g1, hj, V1, _⟩ := valid_join V hx hy hxy
      obtain ⟨g', i', h', V', ih⟩ := draw_more l hl s n d g1 i2 h2 V1 hs2 (by omega)
      refine ⟨g', i', h', V', Ev.step (fun k => ?_) ih⟩
      simp only [spec_l02Draw.l1]
      rw [if_pos (by omega), e1, Option.bind_some, e2, Option.bind_some, if_neg (show ¬ (x : Int) = (y : Int) by omega)]
      simp only [hj, Option.bind_some]
      rw [hw]
theorem draw_tree (l : List Int) (hl : l.length ≤ 2000000) (s : Int) (n : Nat) : ∀ (d v : Nat) (g : List Int) (i h : Int), v + d = n → 1 ≤ v → Valid s g n → StOk l i →
    ∃ g' i' h', Valid s g' n ∧ Ev (fun k => spec_l02Draw.l0 k (n : Int) (v : Int) l i h s g) (s, g', i', h')
  | 0, v, g, i, h, hd, hv, V, hi => by
    obtain ⟨x, i1, h1, e1, hx, hs1⟩ := below_ok l i h 5 hl hi (by decide) (by decide)
    obtain ⟨g', i', h', V', ih⟩ := draw_more l hl s n x g i1 h1 V hs1 (by omega)
    refine ⟨g', i', h', V', Ev.step (fun k => ?_) ih⟩
    simp only [spec_l02Draw.l0]
    rw [if_neg (by omega), show ((5 : Int)) = ((5 : Nat) : Int) from rfl, e1, Option.bind_some]
  | d + 1, v, g, i, h, hd, hv, V, hi => by
    have hn := V.hi
    have hw : wrap64 ((v : Int) + 1) = ((v + 1 : Nat) : Int) := next v (by omega)
    obtain ⟨b, i1, h1, e1, hs1⟩ := once_ok l i h 12 hl hi (by decide) (by decide)
    cases b with
    | true =>
      obtain ⟨g', i', h', V', ih⟩ := draw_tree l hl s n d (v + 1) g i1 h1 (by omega) (by omega) V hs1
      refine ⟨g', i', h', V', Ev.step (fun k => ?_) ih⟩
      simp only [spec_l02Draw.l0]
      rw [if_pos (by omega), show ((12 : Int)) = ((12 : Nat) : Int) from rfl, e1, Option.bind_some, if_pos rfl, hw]
    | false =>
      obtain ⟨x, i2, h2, e2, hx, hs2⟩ := below_ok l i1 h1 v hl hs1 hv (by omega)
      obtain ⟨g1, hj, V1, _⟩ := valid_join V (show x < n by omega) (show v < n by omega) (by omega)
      obtain ⟨g', i', h', V', ih⟩ := draw_tree l hl s n d (v + 1) g1 i2 h2 (by omega) (by omega) V1 hs2
      refine ⟨g', i', h', V', Ev.step (fun k => ?_) ih⟩
      simp only [spec_l02Draw.l0]
      rw [if_pos (by omega), show ((12 : Int)) = ((12 : Nat) : Int) from rfl, e1, Option.bind_some, if_neg (show ¬ false = true by decide)]
      simp only [e2, Option.bind_some, hj]
      rw [hw]
theorem graph_ok (l : List Int) (hl : l.length ≤ 2000000) (a : Nat) (ha : a ≤ 1000) : ∃ s g n, Valid s g n ∧ Ev (fun k => spec_MakeGraph.f k l (a : Int) 8) (s, g) := by
  obtain ⟨t1, t2, ht, hn⟩ := l15_ok l hl a ha
  obtain ⟨x, i1, h1, e1, hx, hs1⟩ := below_ok l t1 t2 8 hl ht (by decide) (by decide)
  have hw : wrap64 (1 + (x : Int)) = ((1 + x : Nat) : Int) := by rw [wrap_close _ (by omega) (by omega)]; omega
  obtain ⟨g', i', h', V', ih⟩ := draw_tree l hl ((1 + x : Nat) : Int) (1 + x) x 1 (List.replicate (1 + x) 0) i1 h1 rfl (Nat.le_refl 1) (valid_empty (1 + x) (by omega) (by omega)) hs1
  refine ⟨((1 + x : Nat) : Int), g', 1 + x, V', ?_⟩
  unfold spec_MakeGraph.f
  refine Ev.bind hn ?_
  have hm : mx 1 (mn 8 8) = ((8 : Nat) : Int) := by decide
  have he : spec_EmptyGraph.f ((1 + x : Nat) : Int) = some (((1 + x : Nat) : Int), List.replicate (1 + x) 0, true) := by
    unfold spec_EmptyGraph.f
    rw [spec_in, Option.bind_some, if_pos (by rw [Bool.and_eq_true, decide_eq_true_eq, decide_eq_true_eq]; omega), if_pos (by omega), Int.toNat_natCast, if_pos (by omega)]
  have hdraw : Ev (fun k => spec_l02Draw.f k l t1 t2 (mx 1 (mn 8 8))) (((1 + x : Nat) : Int), g', i', h') := by
    refine Ev.congr (fun k => ?_) ih
    unfold spec_l02Draw.f
    rw [hm, e1, Option.bind_some, hw, he, Option.bind_some]
    rfl
  refine Ev.bind hdraw ?_
  exact Ev.now _

end Go.Proofs.Ytfnlbakeefcmeaa.Pure
