/- WithoutVertex of the program and WithoutVertex of the reference give the same graph at every graph and number; no condition. -/
import Derived.Test.YtfnlbakeefcmeaaWalkFnExactWithoutVertex
import Derived.Test.YtfnlbakeefcmeaaPVertex
import Derived.Test.YtfnlbakeefcmeaaQx4
import Derived.Test.YtfnlbakeefcmeaaQx5
import Derived.Test.YtfnlbakeefcmeaaQx10
namespace Go.Proofs.Ytfnlbakeefcmeaa.Pure
open Go.RowKit Go.Proofs.Ytfnlbakeefcmeaa.Q Go.Proofs.YtfnlbakeefcmeaaW.PrintWords Go.Proofs.YtfnlbakeefcmeaaW.PrintLast Go.Proofs.YtfnlbakeefcmeaaW.PrintMore

/-- The rows with an edge between w and u. -/
def jn (g : List Int) (w u : Nat) : List Int := (g.set w (Go.bits .or .i64 (rd g (w : Int)) (shl .i64 1 (u : Int)))).set u (Go.bits .or .i64 (rd g (u : Int)) (shl .i64 1 (w : Int)))
theorem jn_length (g : List Int) (w u : Nat) : (jn g w u).length = g.length := by simp [jn]
theorem rd_else (l : List Int) (i j : Nat) (x : Int) (h : i ≠ j) : rd (l.set i x) (j : Int) = rd l (j : Int) := by
  unfold rd
  rw [Int.toNat_natCast, List.getD_eq_getElem?_getD, List.getElem?_set_ne h, List.getD_eq_getElem?_getD]
theorem spec_jn (s : Int) (g : List Int) (w u : Nat) (hw : w < g.length) (hu : u < g.length) (h : w ≠ u) : spec_l02Join.f s g (w : Int) (u : Int) = some (jn g w u) := by
  unfold spec_l02Join.f jn
  rw [if_pos (by omega), if_pos (by omega), if_pos (by omega), Option.bind_some, if_pos (by omega), Int.toNat_natCast, Int.toNat_natCast, rd_else g w u _ h]
theorem impl_jn (s : Int) (g : List Int) (w u : Nat) (hw : w < g.length) (hu : u < g.length) (h : w ≠ u) : impl_Graph_join.f s g (u : Int) (w : Int) = some (jn g w u) := by
  unfold impl_Graph_join.f jn impl_bit.f
  rw [if_pos (by omega), if_pos (by omega), if_pos (by omega), Option.bind_some, Option.bind_some, if_pos (by omega), if_pos (by omega), if_pos (by omega), Option.bind_some, Int.toNat_natCast, Int.toNat_natCast, rd_else g u w _ (Ne.symm h), List.set_comm _ _ (Ne.symm h)]
/-- The old number of a new vertex. -/
def oldN (v i : Nat) : Nat := if v ≤ i then i + 1 else i
/-- Is there an edge between the new vertices. -/
def edN (l : List Int) (v u w : Nat) : Bool := (rn l (oldN v w)).testBit (oldN v u)
def innN (l : List Int) (v w : Nat) : Nat → Nat → List Int → List Int
  | 0, _, g => g
  | d + 1, u, g => innN l v w d (u + 1) (if edN l v u w = true then jn g w u else g)
def outN (l : List Int) (v : Nat) : Nat → Nat → List Int → List Int
  | 0, _, g => g
  | d + 1, w, g => outN l v d (w + 1) (innN l v w w 0 g)
theorem inn_length (l : List Int) (v w : Nat) : ∀ (d u : Nat) (g : List Int), (innN l v w d u g).length = g.length
  | 0, _, _ => rfl
  | d + 1, u, g => by
    unfold innN
    rw [inn_length]
    split
    · exact jn_length g w u
    · rfl
theorem out_length (l : List Int) (v : Nat) : ∀ (d w : Nat) (g : List Int), (outN l v d w g).length = g.length
  | 0, _, _ => rfl
  | d + 1, w, g => by
    unfold outN
    rw [out_length, inn_length]
theorem old_is (v i : Nat) (h : i ≤ 1000) : oldV (v : Int) (i : Int) = ((oldN v i : Nat) : Int) := by
  unfold oldV oldN
  by_cases c : v ≤ i
  · rw [if_pos (by omega), if_pos c, wrap_close _ (by omega) (by omega)]
    omega
  · rw [if_neg (by omega), if_neg c]
theorem edge_is {s : Int} {l : List Int} {n : Nat} (V : Valid s l n) (v u w : Nat) (hv : v < n) (hu : u < n - 1) (hw : w < n - 1) : edgeWithout l (v : Int) (u : Int) (w : Int) = some (edN l v u w) := by
  have hn := V.hi
  have hlen := V.len
  have h1 : oldN v u < n := by unfold oldN; split <;> omega
  have h2 : oldN v w < n := by unfold oldN; split <;> omega
  unfold edgeWithout edN
  rw [old_is v u (by omega), old_is v w (by omega), if_pos (by omega), if_pos (by omega), V.row _ h1, impl_has_is _ _ (small _ n (V.lt _ h1) hn) (by omega), V.sym _ _ h1 h2]
theorem impl_in_loop {s : Int} {l : List Int} {n : Nat} (V : Valid s l n) (v w : Nat) (hv : v < n) (hw : w < n - 1) (N : Int) (s' : Int) (R : Int × List Int × Bool) : ∀ (d u : Nat) (g : List Int), u + d = w → g.length = n - 1 →
    Ev (fun k => impl_graphOf.l0 (edgeWithout l (v : Int)) k N ((w + 1 : Nat) : Int) s' (innN l v w d u g)) R → Ev (fun k => impl_graphOf.l1 (edgeWithout l (v : Int)) k (w : Int) N (w : Int) (w : Int) (u : Int) s' g) R
  | 0, u, g, hd, hg, h => by
    have hn := V.hi
    refine Ev.step (fun k => ?_) h
    simp only [impl_graphOf.l1]
    rw [if_neg (by omega), wrap_close ((w : Int) + 1) (by omega) (by omega), show (w : Int) + 1 = ((w + 1 : Nat) : Int) by omega]
    rfl
  | d + 1, u, g, hd, hg, h => by
    have hn := V.hi
    unfold innN at h
    have ih := impl_in_loop V v w hv hw N s' R d (u + 1) (if edN l v u w = true then jn g w u else g) (by omega) (by split <;> simp [jn_length, hg]) h
    refine Ev.step (fun k => ?_) ih
    simp only [impl_graphOf.l1]
    rw [if_pos (show (u : Int) < (w : Int) by omega), edge_is V v u w hv (by omega) hw, Option.bind_some, wrap_close ((u : Int) + 1) (by omega) (by omega), show (u : Int) + 1 = ((u + 1 : Nat) : Int) by omega]
    by_cases c : edN l v u w = true
    · rw [if_pos c, if_pos c, impl_jn s' g w u (by omega) (by omega) (by omega), Option.bind_some]
    · rw [if_neg c, if_neg c]
theorem impl_out_loop {s : Int} {l : List Int} {n : Nat} (V : Valid s l n) (v : Nat) (hv : v < n) (s' : Int) : ∀ (d w : Nat) (g : List Int), w + d = n - 1 → g.length = n - 1 →
    Ev (fun k => impl_graphOf.l0 (edgeWithout l (v : Int)) k ((n - 1 : Nat) : Int) (w : Int) s' g) (s', outN l v d w g, true)
  | 0, w, g, hd, hg => by
    refine Ev.step (f := fun _ => some (s', g, true)) (fun k => ?_) (Ev.now _)
    simp only [impl_graphOf.l0]
    rw [if_neg (by omega)]
  | d + 1, w, g, hd, hg => by
    have ih := impl_out_loop V v hv s' d (w + 1) (innN l v w w 0 g) (by omega) (by rw [inn_length, hg])
    have h := impl_in_loop V v w hv (by omega) ((n - 1 : Nat) : Int) s' _ w 0 g (by omega) hg ih
    refine Ev.step (fun k => ?_) h
    simp only [impl_graphOf.l0]
    rw [if_pos (by omega)]
    rfl

/-- One old row b beside the removed vertex: join or not, and on. -/
theorem spec_last {s : Int} {l : List Int} (v a b u w : Nat) (s' : Int) (g : List Int) (R : Int × List Int × Bool) (E : Bool) (ha : a ≤ 1000) (_hav : a ≠ v) (hbv : b ≠ v) (hba : b < a) (hw : (w : Int) = if (a : Int) > (v : Int) then (a : Int) - 1 else (a : Int)) (hu : (u : Int) = if (b : Int) > (v : Int) then (b : Int) - 1 else (b : Int)) (hg : w < g.length)
    (h : Ev (fun k => spec_WithoutVertex.l1 k (v : Int) (a : Int) ((b + 1 : Nat) : Int) s l s' (if E = true then jn g w u else g)) R) : Ev (fun k => spec_WithoutVertex.j3 k (v : Int) (a : Int) (b : Int) (!E) s l s' g) R := by
  have huw : u < w := by
    split at hw <;> split at hu <;> omega
  have hj := spec_jn s' g w u hg (by omega) (by omega)
  refine Ev.step (fun k => ?_) h
  simp only [spec_WithoutVertex.j3]
  rw [wrap_close ((b : Int) + 1) (by omega) (by omega), wrap_close ((a : Int) - 1) (by omega) (by omega), wrap_close ((b : Int) - 1) (by omega) (by omega), show (b : Int) + 1 = ((b + 1 : Nat) : Int) by omega]
  cases E with
  | false => rw [if_pos (show (!false) = true by decide), if_neg (show ¬ false = true by decide)]
  | true =>
    rw [if_neg (show ¬ (!true) = true by decide), if_pos rfl]
    by_cases c1 : (a : Int) > (v : Int)
    · rw [if_pos c1] at hw ⊢
      by_cases c2 : (b : Int) > (v : Int)
      · rw [if_pos c2] at hu ⊢
        rw [← hw, ← hu, hj, Option.bind_some]
      · rw [if_neg c2] at hu ⊢
        rw [← hw, ← hu, hj, Option.bind_some]
    · rw [if_neg c1] at hw ⊢
      by_cases c2 : (b : Int) > (v : Int)
      · omega
      · rw [if_neg c2] at hu ⊢
        rw [← hw, ← hu, hj, Option.bind_some]
theorem spec_in_loop {s : Int} {l : List Int} {n : Nat} (V : Valid s l n) (v a w : Nat) (hv : v < n) (ha : a < n) (hav : a ≠ v) (hwa : w = if v < a then a - 1 else a) (s' : Int) (R : Int × List Int × Bool) : ∀ (e b u d : Nat) (g : List Int), b + e = a → u = (if v < b then b - 1 else b) → u + d = w → g.length = n - 1 →
    Ev (fun k => spec_WithoutVertex.l0 k (v : Int) ((a + 1 : Nat) : Int) s l s' (innN l v w d u g)) R → Ev (fun k => spec_WithoutVertex.l1 k (v : Int) (a : Int) (b : Int) s l s' g) R
  | 0, b, u, d, g, hb, hu, hd, hg, h => by
    have hn := V.hi
    have hd0 : d = 0 := by split at hwa <;> split at hu <;> omega
    subst hd0
    refine Ev.step (fun k => ?_) h
    simp only [spec_WithoutVertex.l1]
    rw [if_neg (by omega), wrap_close ((a : Int) + 1) (by omega) (by omega), show (a : Int) + 1 = ((a + 1 : Nat) : Int) by omega]
    rfl
  | e + 1, b, u, d, g, hb, hu, hd, hg, h => by
    have hn := V.hi
    have hlen := V.len
    by_cases hbv : b = v
    · have hu2 : u = (if v < b + 1 then b + 1 - 1 else b + 1) := by
        rw [if_neg (by omega)] at hu
        rw [if_pos (by omega)]
        omega
      have ih := spec_in_loop V v a w hv ha hav hwa s' R e (b + 1) u d g (by omega) hu2 hd hg h
      refine Ev.step (f := fun k => spec_WithoutVertex.j3 k (v : Int) (a : Int) (b : Int) true s l s' g) (fun k => ?_) (Ev.step (fun k => ?_) ih)
      · simp only [spec_WithoutVertex.l1]
        rw [if_pos (by omega), if_neg (by omega), if_pos (by omega)]
      · simp only [spec_WithoutVertex.j3]
        rw [if_pos trivial, wrap_close ((b : Int) + 1) (by omega) (by omega), show (b : Int) + 1 = ((b + 1 : Nat) : Int) by omega]
    · obtain ⟨d, rfl⟩ : ∃ m, d = m + 1 := ⟨d - 1, by split at hwa <;> split at hu <;> omega⟩
      have hob : oldN v u = b := by
        unfold oldN
        split at hu
        · rw [if_pos (by omega)]; omega
        · rw [if_neg (by omega)]; omega
      have hoa : oldN v w = a := by
        unfold oldN
        split at hwa
        · rw [if_pos (by omega)]; omega
        · rw [if_neg (by omega)]; omega
      have hE : edN l v u w = (rn l a).testBit b := by
        unfold edN
        rw [hob, hoa]
      unfold innN at h
      have hwl : w < n - 1 := by split at hwa <;> omega
      have ih := spec_in_loop V v a w hv ha hav hwa s' R e (b + 1) (u + 1) d (if edN l v u w = true then jn g w u else g) (by omega) (by split at hu <;> split <;> omega) (by omega) (by split <;> simp [jn_length, hg]) h
      rw [hE] at ih
      have hl := spec_last (s := s) (l := l) v a b u w s' g R ((rn l a).testBit b) (by omega) hav hbv (by omega) (by split at hwa <;> split <;> omega) (by split at hu <;> split <;> omega) (by omega) ih
      refine Ev.step (fun k => ?_) hl
      simp only [spec_WithoutVertex.l1]
      rw [if_pos (by omega), if_neg (by omega), if_neg (by omega), if_pos (by omega), if_pos (by omega), V.row a ha, spec_has _ b (small _ n (V.lt a ha) hn) (by omega), Option.bind_some]
theorem spec_skip {s : Int} {l : List Int} (v : Nat) (hv : v ≤ 1000) (s' : Int) (g : List Int) (R : Int × List Int × Bool) (h : Ev (fun k => spec_WithoutVertex.l0 k (v : Int) ((v + 1 : Nat) : Int) s l s' g) R) : ∀ (e b : Nat), b + e = v → Ev (fun k => spec_WithoutVertex.l1 k (v : Int) (v : Int) (b : Int) s l s' g) R
  | 0, b, hb => by
    refine Ev.step (fun k => ?_) h
    simp only [spec_WithoutVertex.l1]
    rw [if_neg (by omega), wrap_close ((v : Int) + 1) (by omega) (by omega), show (v : Int) + 1 = ((v + 1 : Nat) : Int) by omega]
  | e + 1, b, hb => by
    have ih := spec_skip v hv s' g R h e (b + 1) (by omega)
    refine Ev.step (f := fun k => spec_WithoutVertex.j3 k (v : Int) (v : Int) (b : Int) true s l s' g) (fun k => ?_) (Ev.step (fun k => ?_) ih)
    · simp only [spec_WithoutVertex.l1]
      rw [if_pos (by omega), if_pos trivial]
    · simp only [spec_WithoutVertex.j3]
      rw [if_pos trivial, wrap_close ((b : Int) + 1) (by omega) (by omega), show (b : Int) + 1 = ((b + 1 : Nat) : Int) by omega]
theorem spec_out_loop {s : Int} {l : List Int} {n : Nat} (V : Valid s l n) (v : Nat) (hv : v < n) (s' : Int) : ∀ (e a w d : Nat) (g : List Int), a + e = n → w = (if v < a then a - 1 else a) → w + d = n - 1 → g.length = n - 1 →
    Ev (fun k => spec_WithoutVertex.l0 k (v : Int) (a : Int) s l s' g) (s', outN l v d w g, true)
  | 0, a, w, d, g, ha, hw, hd, hg => by
    have hs := V.size
    have hd0 : d = 0 := by split at hw <;> omega
    subst hd0
    refine Ev.step (f := fun _ => some (s', g, true)) (fun k => ?_) (Ev.now _)
    simp only [spec_WithoutVertex.l0]
    rw [if_neg (by omega)]
  | e + 1, a, w, d, g, ha, hw, hd, hg => by
    have hs := V.size
    have hn := V.hi
    by_cases hav : a = v
    · subst hav
      have ih := spec_out_loop V a hv s' e (a + 1) w d g (by omega) (by rw [if_neg (by omega)] at hw; rw [if_pos (by omega)]; omega) hd hg
      have h := spec_skip (s := s) (l := l) a (by omega) s' g _ ih a 0 (by omega)
      refine Ev.step (fun k => ?_) h
      simp only [spec_WithoutVertex.l0]
      rw [if_pos (by omega)]
      rfl
    · obtain ⟨d, rfl⟩ : ∃ m, d = m + 1 := ⟨d - 1, by split at hw <;> omega⟩
      have ih := spec_out_loop V v hv s' e (a + 1) (w + 1) d (innN l v w w 0 g) (by omega) (by split at hw <;> split <;> omega) (by omega) (by rw [inn_length, hg])
      have h := spec_in_loop V v a w hv (by omega) hav hw s' _ a 0 0 w g (by omega) (by split <;> omega) (by omega) hg ih
      refine Ev.step (fun k => ?_) h
      simp only [spec_WithoutVertex.l0]
      rw [if_pos (by omega)]
      rfl

theorem both_graphs {g f : Nat → Option (Int × List Int × Bool)} {rs : Int} {r : List Int} {rb : Bool} (hr : r.length ≤ 1000000) (h1 : Ev g (rs, r, rb)) (h2 : Ev f (rs, r, rb)) : ∃ (k : Nat) (rs : Int) (r : List Int) (rb : Bool), r.length ≤ 1000000 ∧ g k = some (rs, r, rb) ∧ f k = some (rs, r, rb) := by
  obtain ⟨K, h1⟩ := h1
  obtain ⟨K', h2⟩ := h2
  exact ⟨max K K', rs, r, rb, hr, h1 _ (by omega), h2 _ (by omega)⟩
theorem spec_no (x s : Int) (l : List Int) : Ev (fun k => spec_WithoutVertex.j0 k x true s l) (0, [], false) :=
  Ev.step (f := fun _ => some (0, [], false)) (fun k => by simp only [spec_WithoutVertex.j0]; rw [if_pos trivial]) (Ev.now _)
theorem FnExactWithoutVertex : laws_FnExactWithoutVertex.Same := by
  intro s l x _ _ _ _
  have hh := impl_hold1 s l x
  have him : (okB s l && vB s x) = false → Ev (fun k => impl_WithoutVertex.f k s l x) (0, [], false) := fun hb => by
    rw [hb] at hh
    unfold impl_WithoutVertex.f
    exact Ev.bind hh (Ev.now _)
  cases h : okB s l with
  | false =>
    refine both_graphs (rs := 0) (r := []) (rb := false) (by decide) ?_ (him (by rw [h]; rfl))
    unfold spec_WithoutVertex.f
    refine Ev.bind (spec_ok s l) ?_
    rw [h]
    exact spec_no x s l
  | true =>
    cases hx : vB s x with
    | false =>
      refine both_graphs (rs := 0) (r := []) (rb := false) (by decide) ?_ (him (by rw [h, hx]; rfl))
      unfold spec_WithoutVertex.f
      refine Ev.bind (spec_ok s l) ?_
      rw [h, spec_vertex, hx]
      exact spec_no x s l
    | true =>
      have V := (okB_iff s l).mp h
      have hx' := hx
      rw [V.size] at hx'
      obtain ⟨v, rfl, hv⟩ := (vB_iff l.length x).mp hx'
      have hn := V.hi
      have h0 := V.lo
      have hs := V.size
      rw [h, hx] at hh
      by_cases h1 : s = 1
      · refine both_graphs (rs := 0) (r := []) (rb := false) (by decide) ?_ ?_
        · unfold spec_WithoutVertex.f
          refine Ev.bind (spec_ok s l) ?_
          rw [h, spec_vertex, hx, show (s == 1) = true from beq_iff_eq.mpr h1]
          exact spec_no _ s l
        · unfold impl_WithoutVertex.f
          refine Ev.bind hh ?_
          exact Ev.congr (fun k => by rw [Bool.and_self, if_pos rfl, if_pos h1]) (Ev.now _)
      · have hw : wrap64 (s - 1) = ((l.length - 1 : Nat) : Int) := by rw [wrap_close _ (by omega) (by omega)]; omega
        have hrl : (List.replicate (l.length - 1) (0 : Int)).length = l.length - 1 := List.length_replicate
        refine both_graphs (rs := ((l.length - 1 : Nat) : Int)) (r := outN l v (l.length - 1) 0 (List.replicate (l.length - 1) 0)) (rb := true) (by rw [out_length, hrl]; omega) ?_ ?_
        · unfold spec_WithoutVertex.f
          refine Ev.bind (spec_ok s l) ?_
          rw [h, spec_vertex, hx, show (s == 1) = false from beq_eq_false_iff_ne.mpr h1]
          refine Ev.step (fun k => ?_) (spec_out_loop V v hv ((l.length - 1 : Nat) : Int) l.length 0 0 (l.length - 1) (List.replicate (l.length - 1) 0) (by omega) (by rw [if_neg (by omega)]) (by omega) hrl)
          show spec_WithoutVertex.j0 (k + 1) (v : Int) false s l = _
          simp only [spec_WithoutVertex.j0]
          rw [if_neg (by decide), hw, if_pos (by omega), Int.toNat_natCast, if_pos (by omega)]
          rfl
        · unfold impl_WithoutVertex.f
          refine Ev.bind hh ?_
          refine Ev.congr (fun k => by rw [Bool.and_self, if_pos rfl, if_neg h1, hw]) ?_
          have hg : Ev (fun k => impl_graphOf.f (edgeWithout l (v : Int)) k ((l.length - 1 : Nat) : Int)) (((l.length - 1 : Nat) : Int), outN l v (l.length - 1) 0 (List.replicate (l.length - 1) 0), true) := by
            refine Ev.congr (fun k => ?_) (impl_out_loop V v hv ((l.length - 1 : Nat) : Int) (l.length - 1) 0 (List.replicate (l.length - 1) 0) (by omega) hrl)
            unfold impl_graphOf.f
            rw [impl_in_is, Option.bind_some, if_pos (by rw [Bool.and_eq_true, decide_eq_true_eq, decide_eq_true_eq]; omega), if_pos (by omega), Int.toNat_natCast, if_pos (by omega)]
            rfl
          exact Ev.bind hg (Ev.now _)

end Go.Proofs.Ytfnlbakeefcmeaa.Pure
