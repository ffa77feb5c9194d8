/- The program's graph without a vertex: what it makes is a valid graph with the bits of the old one; no condition beside validity. -/
import Derived.Test.YtfnlbakeefcmeaaPMakeG
import Derived.Test.YtfnlbakeefcmeaaPVertex
import Derived.Test.YtfnlbakeefcmeaaPSum
import Derived.Test.YtfnlbakeefcmeaaXWithout
import Derived.Test.YtfnlbakeefcmeaaQx3
import Derived.Test.YtfnlbakeefcmeaaQx6
namespace Go.Proofs.Ytfnlbakeefcmeaa.Pure
open Go.RowKit Go.Proofs.Ytfnlbakeefcmeaa.Q Go.Proofs.YtfnlbakeefcmeaaW.PrintWords Go.Proofs.YtfnlbakeefcmeaaW.PrintLast Go.Proofs.YtfnlbakeefcmeaaW.PrintMore

/-- The rows with an edge between w and u. -/
def jn (g : List Int) (w u : Nat) : List Int := (g.set w (Go.bits .or .i64 (rd g (w : Int)) (shl .i64 1 (u : Int)))).set u (Go.bits .or .i64 (rd g (u : Int)) (shl .i64 1 (w : Int)))
theorem jn_length (g : List Int) (w u : Nat) : (jn g w u).length = g.length := by simp [jn]
theorem rd_else (l : List Int) (i j : Nat) (x : Int) (h : i ≠ j) : rd (l.set i x) (j : Int) = rd l (j : Int) := by
  unfold rd
  rw [Int.toNat_natCast, List.getD_eq_getElem?_getD, List.getElem?_set_ne h, List.getD_eq_getElem?_getD]
theorem spec_jn (s : Int) (g : List Int) (w u : Nat) (hw : w < g.length) (hu : u < g.length) (h : w ≠ u) : spec_l02Join.f s g (w : Int) (u : Int) = some (jn g w u) := by
  unfold spec_l02Join.f jn
  rw [if_pos (by omega), if_pos (by omega), if_pos (by omega), Option.bind_some, if_pos (by omega), Int.toNat_natCast, Int.toNat_natCast, rd_else g w u _ h]
theorem impl_jn (s : Int) (g : List Int) (w u : Nat) (hw : w < g.length) (hu : u < g.length) (h : w ≠ u) : impl_Graph_join.f s g (u : Int) (w : Int) = some (jn g w u) := by
  unfold impl_Graph_join.f jn impl_bit.f
  rw [if_pos (by omega), if_pos (by omega), if_pos (by omega), Option.bind_some, Option.bind_some, if_pos (by omega), if_pos (by omega), if_pos (by omega), Option.bind_some, Int.toNat_natCast, Int.toNat_natCast, rd_else g u w _ (Ne.symm h), List.set_comm _ _ (Ne.symm h)]
/-- Is there an edge between the new vertices. -/
def edN (l : List Int) (v u w : Nat) : Bool := (rn l (oldN v w)).testBit (oldN v u)
def innN (l : List Int) (v w : Nat) : Nat → Nat → List Int → List Int
  | 0, _, g => g
  | d + 1, u, g => innN l v w d (u + 1) (if edN l v u w = true then jn g w u else g)
def outN (l : List Int) (v : Nat) : Nat → Nat → List Int → List Int
  | 0, _, g => g
  | d + 1, w, g => outN l v d (w + 1) (innN l v w w 0 g)
theorem inn_length (l : List Int) (v w : Nat) : ∀ (d u : Nat) (g : List Int), (innN l v w d u g).length = g.length
  | 0, _, _ => rfl
  | d + 1, u, g => by
    unfold innN
    rw [inn_length]
    split
    · exact jn_length g w u
    · rfl
theorem out_length (l : List Int) (v : Nat) : ∀ (d w : Nat) (g : List Int), (outN l v d w g).length = g.length
  | 0, _, _ => rfl
  | d + 1, w, g => by
    unfold outN
    rw [out_length, inn_length]
theorem old_is (v i : Nat) (h : i ≤ 1000) : oldV (v : Int) (i : Int) = ((oldN v i : Nat) : Int) := by
  unfold oldV oldN
  by_cases c : v ≤ i
  · rw [if_pos (by omega), if_pos c, wrap_close _ (by omega) (by omega)]
    omega
  · rw [if_neg (by omega), if_neg c]
theorem edge_is {s : Int} {l : List Int} {n : Nat} (V : Valid s l n) (v u w : Nat) (hv : v < n) (hu : u < n - 1) (hw : w < n - 1) : edgeWithout l (v : Int) (u : Int) (w : Int) = some (edN l v u w) := by
  have hn := V.hi
  have hlen := V.len
  have h1 : oldN v u < n := by unfold oldN; split <;> omega
  have h2 : oldN v w < n := by unfold oldN; split <;> omega
  unfold edgeWithout edN
  rw [old_is v u (by omega), old_is v w (by omega), if_pos (by omega), if_pos (by omega), V.row _ h1, impl_has_is _ _ (small _ n (V.lt _ h1) hn) (by omega), V.sym _ _ h1 h2]
theorem impl_in_loop {s : Int} {l : List Int} {n : Nat} (V : Valid s l n) (v w : Nat) (hv : v < n) (hw : w < n - 1) (N : Int) (s' : Int) (R : Int × List Int × Bool) : ∀ (d u : Nat) (g : List Int), u + d = w → g.length = n - 1 →
    Ev (fun k => impl_graphOf.l0 (edgeWithout l (v : Int)) k N ((w + 1 : Nat) : Int) s' (innN l v w d u g)) R → Ev (fun k => impl_graphOf.l1 (edgeWithout l (v : Int)) k (w : Int) N (w : Int) (w : Int) (u : Int) s' g) R
  | 0, u, g, hd, hg, h => by
    have hn := V.hi
    refine Ev.step (fun k => ?_) h
    simp only [impl_graphOf.l1]
    rw [if_neg (by omega), wrap_close ((w : Int) + 1) (by omega) (by omega), show (w : Int) + 1 = ((w + 1 : Nat) : Int) by omega]
    rfl
  | d + 1, u, g, hd, hg, h => by
    have hn := V.hi
    unfold innN at h
    have ih := impl_in_loop V v w hv hw N s' R d (u + 1) (if edN l v u w = true then jn g w u else g) (by omega) (by split <;> simp [jn_length, hg]) h
    refine Ev.step (fun k => ?_) ih
    simp only [impl_graphOf.l1]
    rw [if_pos (show (u : Int) < (w : Int) by omega), edge_is V v u w hv (by omega) hw, Option.bind_some, wrap_close ((u : Int) + 1) (by omega) (by omega), show (u : Int) + 1 = ((u + 1 : Nat) : Int) by omega]
    by_cases c : edN l v u w = true
    · rw [if_pos c, if_pos c, impl_jn s' g w u (by omega) (by omega) (by omega), Option.bind_some]
    · rw [if_neg c, if_neg c]
theorem impl_out_loop {s : Int} {l : List Int} {n : Nat} (V : Valid s l n) (v : Nat) (hv : v < n) (s' : Int) : ∀ (d w : Nat) (g : List Int), w + d = n - 1 → g.length = n - 1 →
    Ev (fun k => impl_graphOf.l0 (edgeWithout l (v : Int)) k ((n - 1 : Nat) : Int) (w : Int) s' g) (s', outN l v d w g, true)
  | 0, w, g, hd, hg => by
    refine Ev.step (f := fun _ => some (s', g, true)) (fun k => ?_) (Ev.now _)
    simp only [impl_graphOf.l0]
    rw [if_neg (by omega)]
  | d + 1, w, g, hd, hg => by
    have ih := impl_out_loop V v hv s' d (w + 1) (innN l v w w 0 g) (by omega) (by rw [inn_length, hg])
    have h := impl_in_loop V v w hv (by omega) ((n - 1 : Nat) : Int) s' _ w 0 g (by omega) hg ih
    refine Ev.step (fun k => ?_) h
    simp only [impl_graphOf.l0]
    rw [if_pos (by omega)]
    rfl

theorem jn_valid {s : Int} {l : List Int} {n v w : Nat} (V : Valid s l n) (hv : v < n) (hw : w < n) (hvw : v ≠ w) : Valid s (jn l v w) n ∧ ∀ u, u < n → ∀ i, (rn (jn l v w) u).testBit i = ((rn l u).testBit i || ((v == u && w == i) || (w == u && v == i))) := by
  have hlen := V.len
  obtain ⟨l', h1, h2, h3⟩ := valid_join V hv hw hvw
  rw [spec_jn s l v w (by omega) (by omega) hvw] at h1
  obtain rfl := Option.some.inj h1
  exact ⟨h2, h3⟩
/-- The old table at the new numbers. -/
def edO (l : List Int) (v i j : Nat) : Bool := (rn l (oldN v i)).testBit (oldN v j)
/-- The pairs that are done: all of the rows before w, and of row w those before u. -/
def Past (w u i j : Nat) : Prop := (i < w ∧ j < w) ∨ (i = w ∧ j < u) ∨ (j = w ∧ i < u)
theorem inn_bits {s : Int} {l : List Int} {m : Nat} (V : Valid s l (m + 1)) (v w : Nat) (hw : w < m) (s' : Int) : ∀ (d u : Nat) (g : List Int), u + d = w → Valid s' g m →
    (∀ i j, i < m → j < m → ((rn g i).testBit j = true ↔ (edO l v i j = true ∧ Past w u i j))) →
    Valid s' (innN l v w d u g) m ∧ ∀ i j, i < m → j < m → ((rn (innN l v w d u g) i).testBit j = true ↔ (edO l v i j = true ∧ Past (w + 1) 0 i j))
  | 0, u, g, hd, Vg, hg => by
    refine ⟨Vg, fun i j hi hj => ?_⟩
    unfold innN
    rw [hg i j hi hj]
    have hirr : edO l v w w = false := V.irr _ (old_lt v w m hw)
    unfold Past
    constructor
    · rintro ⟨h1, h2⟩
      exact ⟨h1, by omega⟩
    · rintro ⟨h1, h2⟩
      refine ⟨h1, ?_⟩
      by_cases e : i = w ∧ j = w
      · rw [e.1, e.2, hirr] at h1
        cases h1
      · omega
  | d + 1, u, g, hd, Vg, hg => by
    unfold innN
    have hsym : edO l v u w = edO l v w u := V.sym _ _ (old_lt v u m (by omega)) (old_lt v w m hw)
    have he : edN l v u w = edO l v w u := rfl
    by_cases c : edN l v u w = true
    · obtain ⟨V1, h1⟩ := jn_valid Vg hw (show u < m by omega) (by omega)
      rw [if_pos c]
      refine inn_bits V v w hw s' d (u + 1) (jn g w u) (by omega) V1 (fun i j hi hj => ?_)
      rw [h1 i hi j, Bool.or_eq_true, Bool.or_eq_true, hg i j hi hj, Bool.and_eq_true, Bool.and_eq_true, beq_iff_eq, beq_iff_eq, beq_iff_eq, beq_iff_eq]
      unfold Past
      constructor
      · rintro (⟨a, b⟩ | ⟨rfl, rfl⟩ | ⟨rfl, rfl⟩)
        · exact ⟨a, by omega⟩
        · exact ⟨by rw [← he]; exact c, by omega⟩
        · exact ⟨by rw [hsym, ← he]; exact c, by omega⟩
      · rintro ⟨a, b⟩
        by_cases e1 : w = i ∧ u = j
        · exact .inr (.inl e1)
        · by_cases e2 : u = i ∧ w = j
          · exact .inr (.inr e2)
          · exact .inl ⟨a, by omega⟩
    · rw [if_neg c]
      refine inn_bits V v w hw s' d (u + 1) g (by omega) Vg (fun i j hi hj => ?_)
      rw [hg i j hi hj]
      have c' : edO l v w u = false := by rw [← he]; exact Bool.eq_false_iff.mpr c
      unfold Past
      constructor
      · rintro ⟨a, b⟩
        exact ⟨a, by omega⟩
      · rintro ⟨a, b⟩
        refine ⟨a, ?_⟩
        by_cases e1 : i = w ∧ j = u
        · rw [e1.1, e1.2, c'] at a
          cases a
        · by_cases e2 : i = u ∧ j = w
          · rw [e2.1, e2.2, hsym, c'] at a
            cases a
          · omega
theorem out_bits {s : Int} {l : List Int} {m : Nat} (V : Valid s l (m + 1)) (v : Nat) (s' : Int) : ∀ (d w : Nat) (g : List Int), w + d = m → Valid s' g m →
    (∀ i j, i < m → j < m → ((rn g i).testBit j = true ↔ (edO l v i j = true ∧ Past w 0 i j))) →
    Valid s' (outN l v d w g) m ∧ ∀ i j, i < m → j < m → (rn (outN l v d w g) i).testBit j = edO l v i j
  | 0, w, g, hd, Vg, hg => by
    refine ⟨Vg, fun i j hi hj => ?_⟩
    unfold outN
    rw [Bool.eq_iff_iff, hg i j hi hj]
    unfold Past
    exact ⟨fun h => h.1, fun h => ⟨h, by omega⟩⟩
  | d + 1, w, g, hd, Vg, hg => by
    unfold outN
    obtain ⟨V1, h1⟩ := inn_bits V v w (by omega) s' w 0 g (by omega) Vg hg
    exact out_bits V v s' d (w + 1) (innN l v w w 0 g) (by omega) V1 h1
theorem rn_zero (n v : Nat) : rn (List.replicate n 0) v = 0 := rn_of _ v 0 (rd_zero n v)
/-- The program's graph without the vertex v. -/
theorem without_is {s : Int} {l : List Int} {m : Nat} (V : Valid s l (m + 1)) (v : Nat) (hv : v < m + 1) (hm : 1 ≤ m) :
    ∃ g, Valid (m : Int) g m ∧ (∀ i j, i < m → j < m → (rn g i).testBit j = (rn l (oldN v i)).testBit (oldN v j)) ∧ Ev (fun k => impl_WithoutVertex.f k s l (v : Int)) ((m : Int), g, true) := by
  have hs := V.size
  have hn := V.hi
  have hlen := V.len
  have hok : okB s l = true := by rw [okB_iff, hlen]; exact V
  have hvb : vB s (v : Int) = true := by rw [hs, vB_iff]; exact ⟨v, rfl, hv⟩
  obtain ⟨V1, h1⟩ := out_bits V v (m : Int) m 0 (List.replicate m 0) (by omega) (valid_empty m hm (by omega)) (fun i j hi hj => by
    rw [rn_zero, Nat.zero_testBit]
    unfold Past
    constructor
    · intro h; cases h
    · rintro ⟨_, h⟩; omega)
  refine ⟨outN l v m 0 (List.replicate m 0), V1, h1, ?_⟩
  have hh := impl_hold1 s l (v : Int)
  rw [hok, hvb] at hh
  have hw : wrap64 (s - 1) = (m : Int) := by rw [hs, wrap_close _ (by omega) (by omega)]; omega
  unfold impl_WithoutVertex.f
  refine Ev.bind hh ?_
  refine Ev.congr (fun k => by rw [Bool.and_self, if_pos rfl, if_neg (by omega), hw]) ?_
  have hl := impl_out_loop V v hv (m : Int) m 0 (List.replicate m 0) (by omega) (by rw [List.length_replicate]; rfl)
  rw [show m + 1 - 1 = m by omega] at hl
  have hg : Ev (fun k => impl_graphOf.f (edgeWithout l (v : Int)) k (m : Int)) ((m : Int), outN l v m 0 (List.replicate m 0), true) := by
    refine Ev.congr (fun k => ?_) hl
    unfold impl_graphOf.f
    rw [impl_in_is, Option.bind_some, if_pos (by rw [Bool.and_eq_true, decide_eq_true_eq, decide_eq_true_eq]; omega), if_pos (by omega), Int.toNat_natCast, if_pos (by omega)]
    rfl
  exact Ev.bind hg (Ev.now _)
theorem without_no {s : Int} {l : List Int} (V : Valid s l 1) (v : Nat) (hv : v < 1) : Ev (fun k => impl_WithoutVertex.f k s l (v : Int)) (0, [], false) := by
  have hs := V.size
  have hlen := V.len
  have hok : okB s l = true := by rw [okB_iff, hlen]; exact V
  have hvb : vB s (v : Int) = true := by rw [hs, vB_iff]; exact ⟨v, rfl, hv⟩
  have hh := impl_hold1 s l (v : Int)
  rw [hok, hvb] at hh
  unfold impl_WithoutVertex.f
  refine Ev.bind hh ?_
  exact Ev.congr (fun k => by rw [Bool.and_self, if_pos rfl, if_pos (by rw [hs]; rfl)]) (Ev.now _)

end Go.Proofs.Ytfnlbakeefcmeaa.Pure
