/- The function that impl.WithoutVertex hands to impl.graphOf; condition: the graph's box, the vertex' box and the function's box hold what the maker laid. -/
import Derived.Laws.EntriesVeiled
import Derived.Test.YtfnlbakeefcmeaaXGraphOf
import Derived.Test.YtfnlbakeefcmeaaQx0
import Derived.Test.YtfnlbakeefcmeaaQx1
import Derived.Test.YtfnlbakeefcmeaaQx10
namespace Go.Proofs.Ytfnlbakeefcmeaa.Q
open Go.RowKit Go.Proofs.YtfnlbakeefcmeaaW.PrintWords Go.Proofs.YtfnlbakeefcmeaaW.PrintLast Go.Proofs.YtfnlbakeefcmeaaW.PrintMore
attribute [local go_sem] max2_int min2_int max_two min_two max_three min_three max_four min_four
set_option linter.unusedVariables false
set_option linter.unusedSimpArgs false

/-- The number of an old vertex. -/
def oldV (v k : Int) : Int := if v ≤ k then wrap64 (k + 1) else k
/-- Is there an edge between the vertices that x and y were. -/
def edgeWithout (l : List Int) (v x y : Int) : Option Bool := if 0 ≤ oldV v x then if oldV v x < (l.length : Int) then impl_has.f (rd l (oldV v x)) (oldV v y) else none else none
/-- A call of a function value in a drawn region. -/
theorem goesW_ {P : Program} {ops : Array Oper} {Q : Exit → Act → World → Prop} {oi : Oper} {N : Option Tmp} {a : Act} {w : World} {K : Act → World → Prop} {c : Operand} {ys : Array Operand} {ts : Array TypeId} (g : FuncId) (caps : Array Value)
    (he : ∀ (xs : Array Value) (W : World), (callFunc g xs).run P W = .ok (.enter g xs) W) (args : Array Value)
    (hw : Region.wanted oi (yielded ops a.tmps) = true) (hN : oi.dst = N) (hop : oi.op = .call { callee := .value c, args := ys, argTypes := ts }) (hc : a.eval c = .func (.func g) #[] caps) (hargs : ys.map a.eval = args)
    (h : Calls P g (args ++ caps) w fun e w' => ∃ v, e = .returned v ∧ K (a.put N v) w') : if Region.wanted oi (yielded ops a.tmps) = true then Oper.wp P oi a w K Q else K (a.put N undef) w := by
  refine call_ g (args ++ caps) hw hN ?_ h
  unfold execOp
  simp [hop, resolve, Deferred.ofValue, invoke, hc, hargs, he]
theorem enters_fw {P : Program} {f : FuncId} {fn : Func} (hf : P.funcs[f]? = some fn) (hname : (fn.name == "runtime.NumGoroutine") = false) (hb : fn.body.isSome = true) : ∀ (xs : Array Value) (W : World), (callFunc f xs).run P W = .ok (.enter f xs) W := fun xs W => enters_ hf hname hb xs W
set_option maxHeartbeats 8000000 in
theorem old_WithoutVertex (v : Int) (B : Nat) (W : World) (hB : W.heap[B]? = some (.cells #[.int .i64 v] 3 (0, 0))) (x : Int) :
    Calls Try.prog 34 (#[.int .i64 x] ++ #[.pointer (some ⟨B, 0, none⟩)]) W fun e w' => e = .returned (.int .i64 (oldV v x)) ∧ Drawn0 W w' := by
  have hc : W.cell? ⟨B, 0, none⟩ = some (.int .i64 v) := (blk_cell hB 0).trans rfl
  clear hB
  unfold oldV
  by_cases h1 : v ≤ x
  · have b1 : decide (v ≤ x) = true := decide_eq_true h1
    rw [if_pos h1]
    clear h1
    show Calls Try.prog 34 #[.int .i64 x, .pointer (some ⟨B, 0, none⟩)] W _
    go_enter Try.func34, Try.ntmps34
    go_wp2
    go_ret
    exact ⟨by first | rfl | (simp; done) | (simp [*]; done), Drawn0.refl _⟩
  · have b1 : decide (v ≤ x) = false := decide_eq_false h1
    rw [if_neg h1]
    clear h1
    show Calls Try.prog 34 #[.int .i64 x, .pointer (some ⟨B, 0, none⟩)] W _
    go_enter Try.func34, Try.ntmps34
    go_wp2
    go_ret
    exact ⟨by first | rfl | (simp; done) | (simp [*]; done), Drawn0.refl _⟩

/-! ### impl_WithoutVertex -/
def impl_WithoutVertex.f (k : Nat) (s : Int) (l : List Int) (v : Int) : Option (Int × List Int × Bool) := (impl_Graph_hold.f k s l [v]).bind fun t => if t = true then (if s = 1 then some (0, ([] : List Int), false) else ((impl_graphOf.f (edgeWithout l v) k (wrap64 (s - 1))).bind fun g => some (g.1, g.2.1, g.2.2))) else some (0, ([] : List Int), false)
theorem impl_WithoutVertex.mono : ∀ a0 a1 a2 k, LeO (impl_WithoutVertex.f k a0 a1 a2) (impl_WithoutVertex.f (k + 1) a0 a1 a2) := by
  intro a0 a1 a2 k
  unfold impl_WithoutVertex.f
  refine LeO.bind (impl_Graph_hold.mono _ _ _ _) (fun _ => ?_)
  refine LeO.ite ?_ (LeO.refl _)
  refine LeO.ite (LeO.refl _) ?_
  refine LeO.bind ?_ (fun _ => LeO.refl _)
  exact impl_graphOf.mono _ _ _

set_option maxHeartbeats 8000000 in
set_option maxRecDepth 100000 in
theorem edge_WithoutVertex (s : Int) (A : Option Addr) (c : Nat) (l : List Int) (v : Int) (G V O : Nat) (w : World) (hG : w.heap[G]? = some (.cells #[.int .i64 s, .slice A l.length c] 26 (0, 0))) (hV : w.heap[V]? = some (.cells #[.int .i64 v] 3 (0, 0)))
    (hO : w.heap[O]? = some (.cells #[.func (.func 34) #[] #[.pointer (some ⟨V, 0, none⟩)]] 51 (0, 0))) (hr : Kd.C (Kd.int .i64) w A l.length l) (x y : Int) (b : Bool) (h : edgeWithout l v x y = some b) :
    Calls Try.prog 36 (#[.int .i64 x, .int .i64 y] ++ #[.pointer (some ⟨G, 0, none⟩), .pointer (some ⟨O, 0, none⟩)]) w fun e w' => e = .returned (.bool b) ∧ Drawn0 w w' := by
  unfold edgeWithout at h
  by_cases c1 : 0 ≤ oldV v x
  rotate_left
  · rw [if_neg c1] at h; cases h
  rw [if_pos c1] at h
  by_cases c2 : oldV v x < (l.length : Int)
  rotate_left
  · rw [if_neg c2] at h; cases h
  rw [if_pos c2] at h
  obtain ⟨ad, e0, hx0⟩ := Kd.at_int hr (oldV v x) c1 c2
  subst e0
  have HH := Aside0.mk h
  have BG := Aside0.mk hG
  have BV := Aside0.mk hV
  have BO := Aside0.mk hO
  have HX := Aside0.mk hx0
  have HC1 := Aside0.mk c1
  have HC2 := Aside0.mk c2
  have HB := Aside0.mk (Drawn0.refl w)
  have d1 : decide (0 ≤ oldV v x) = true := decide_eq_true c1
  have d2 : decide (oldV v x < (l.length : Int)) = true := decide_eq_true c2
  clear h hG hV hO hr hx0 c1 c2
  show Calls Try.prog 36 #[.int .i64 x, .int .i64 y, .pointer (some ⟨G, 0, none⟩), .pointer (some ⟨O, 0, none⟩)] w _
  go_enter Try.func36, Try.ntmps36
  go_wp2_with fail
  have n0_ := Aside0.mk (show Drawn0 w w.drew from Drawn0.step HB.out 1)
  have n1_ := Aside0.mk (blk_drew BG.out)
  have n2_ := Aside0.mk (blk_drew BV.out)
  have n3_ := Aside0.mk (blk_drew BO.out)
  have n4_ := Aside0.mk (show w.drew.cell? (ad.add (oldV v x).toNat) = some (.int .i64 (rd l (oldV v x))) from HX.out)
  clear BG BV BO HX HB
  have HB := n0_
  have BG := n1_
  have BV := n2_
  have BO := n3_
  have HX := n4_
  clear n0_ n1_ n2_ n3_ n4_
  refine start_ (n := 12) (S := fun w' => w'.cell? ⟨G, 1, none⟩ = some (.slice (some ad) l.length c) ∧ w'.cell? ⟨O, 0, none⟩ = some (.func (.func 34) #[] #[.pointer (some ⟨V, 0, none⟩)]) ∧ w'.cell? (ad.add (oldV v x).toNat) = some (.int .i64 (rd l (oldV v x)))) (ds := []) #[false, false, false, false, false, false, false, false, false, false, false, false] (by kernel_rfl) rfl rfl ⟨(blk_cell BG.out 1).trans rfl, (blk_cell BO.out 0).trans rfl, HX.out⟩ (fun hHeld => ?_)
  generalize w.drew = w1 at HB BG BV BO HX hHeld ⊢
  refine pure_ (i := 0) (N := some 7) (v := ?_) (a' := ?_) #[true, false, false, false, false, false, false, false, false, false, false, false] rfl rfl (by kernel_rfl) (fun _ _ _ h => h) (Or.inl ⟨by rfl, ?_⟩) ?_ ?_
  rotate_left
  · intro w'
    go_simp
    with_reducible rfl
  rotate_left
  · simp only [Act.put, List.setIfInBounds_toArray, List.set_cons_zero, List.set_cons_succ, i64_w, i32_w]
    rfl
  refine take_ (i := 1) (N := some 8) (v := ?_) (a' := ?_) #[true, true, false, false, false, false, false, false, false, false, false, false] rfl rfl (by kernel_rfl) (fun _ _ _ h => h) (Or.inl ⟨by rfl, ?_⟩) hHeld ?_ ?_
  rotate_left
  · rintro w' ⟨s0, s1, s2⟩
    go_simp
    with_reducible rfl
  rotate_left
  · simp only [Act.put, List.setIfInBounds_toArray, List.set_cons_zero, List.set_cons_succ, i64_w, i32_w]
    rfl
  refine take_ (i := 2) (N := some 9) (v := ?_) (a' := ?_) #[true, true, true, false, false, false, false, false, false, false, false, false] rfl rfl (by kernel_rfl) (fun _ _ _ h => h) (Or.inl ⟨by rfl, ?_⟩) hHeld ?_ ?_
  rotate_left
  · rintro w' ⟨s0, s1, s2⟩
    go_simp
    with_reducible rfl
  rotate_left
  · simp only [Act.put, List.setIfInBounds_toArray, List.set_cons_zero, List.set_cons_succ, i64_w, i32_w]
    rfl
  refine pure_ (i := 3) (N := some 10) (v := ?_) (a' := ?_) #[true, true, true, true, false, false, false, false, false, false, false, false] rfl rfl (by kernel_rfl) (fun _ _ _ h => h) (Or.inl ⟨by rfl, ?_⟩) ?_ ?_
  rotate_left
  · intro w'
    go_simp
    with_reducible rfl
  rotate_left
  · simp only [Act.put, List.setIfInBounds_toArray, List.set_cons_zero, List.set_cons_succ, i64_w, i32_w]
    rfl
  refine take_ (i := 7) (N := some 14) (v := ?_) (a' := ?_) #[true, true, true, true, false, false, false, true, false, false, false, false] rfl rfl (by kernel_rfl) (fun _ _ _ h => h) (Or.inl ⟨by rfl, ?_⟩) hHeld ?_ ?_
  rotate_left
  · rintro w' ⟨s0, s1, s2⟩
    go_simp
    with_reducible rfl
  rotate_left
  · simp only [Act.put, List.setIfInBounds_toArray, List.set_cons_zero, List.set_cons_succ, i64_w, i32_w]
    rfl
  refine pure_ (i := 8) (N := some 15) (v := ?_) (a' := ?_) #[true, true, true, true, false, false, false, true, true, false, false, false] rfl rfl (by kernel_rfl) (fun _ _ _ h => h) (Or.inl ⟨by rfl, ?_⟩) ?_ ?_
  rotate_left
  · intro w'
    go_simp
    with_reducible rfl
  rotate_left
  · simp only [Act.put, List.setIfInBounds_toArray, List.set_cons_zero, List.set_cons_succ, i64_w, i32_w]
    rfl
  refine one_ (i := 4) (N := some 11) #[true, true, true, true, true, false, false, true, true, false, false, false] rfl rfl (by kernel_rfl) (by decide) (fun K hK => ?_)
  refine goesW_ 34 #[.pointer (some ⟨V, 0, none⟩)] (enters_fw Try.func34 (by kernel_rfl) rfl) #[.int .i64 x] (by rfl) rfl rfl rfl (by (try simp only [List.map_toArray, List.map_cons, List.map_nil]); first | done | rfl) ?_
  (with_reducible refine (old_WithoutVertex v V _ BV.out x).mono ?_)
  rintro e w' ⟨rfl, ⟨nd, rfl⟩⟩
  refine ⟨_, rfl, ?_⟩
  have n0_ := Aside0.mk (Drawn0.step HB.out nd)
  have n1_ := Aside0.mk (blk_drewN BG.out nd)
  have n2_ := Aside0.mk (blk_drewN BV.out nd)
  have n3_ := Aside0.mk (blk_drewN BO.out nd)
  have n4_ := Aside0.mk (show (w1.drewN nd).cell? (ad.add (oldV v x).toNat) = some (.int .i64 (rd l (oldV v x))) from HX.out)
  clear HB BG BV BO HX hHeld
  have HB := n0_
  have BG := n1_
  have BV := n2_
  have BO := n3_
  have HX := n4_
  clear n0_ n1_ n2_ n3_ n4_
  generalize w1.drewN nd = w2 at HB BG BV BO HX ⊢
  refine hK.out _ _ ⟨(blk_cell BG.out 1).trans rfl, (blk_cell BO.out 0).trans rfl, HX.out⟩ (fun hHeld => ?_)
  clear hK K
  refine norm_ (a' := ?_) ?_ ?_
  rotate_left
  · show Act.put _ (some 11) _ = _
    simp only [Act.put, List.setIfInBounds_toArray, List.set_cons_zero, List.set_cons_succ, i64_w, i32_w]
    rfl
  refine pure_ (i := 5) (N := some 12) (v := ?_) (a' := ?_) #[true, true, true, true, true, true, false, true, true, false, false, false] rfl rfl (by kernel_rfl) (fun _ _ _ h => h) (Or.inl ⟨by rfl, ?_⟩) ?_ ?_
  rotate_left
  · intro w'
    go_simp
    rw [if_pos ⟨HC1.out, HC2.out⟩]
  rotate_left
  · simp only [Act.put, List.setIfInBounds_toArray, List.set_cons_zero, List.set_cons_succ, i64_w, i32_w]
    rfl
  refine take_ (i := 6) (N := some 13) (v := ?_) (a' := ?_) #[true, true, true, true, true, true, true, true, true, false, false, false] rfl rfl (by kernel_rfl) (fun _ _ _ h => h) (Or.inl ⟨by rfl, ?_⟩) hHeld ?_ ?_
  rotate_left
  · rintro w' ⟨s0, s1, s2⟩
    go_simp
    with_reducible rfl
  rotate_left
  · simp only [Act.put, List.setIfInBounds_toArray, List.set_cons_zero, List.set_cons_succ, i64_w, i32_w]
    rfl
  refine one_ (i := 9) (N := some 16) #[true, true, true, true, true, true, true, true, true, true, false, false] rfl rfl (by kernel_rfl) (by decide) (fun K hK => ?_)
  refine goesW_ 34 #[.pointer (some ⟨V, 0, none⟩)] (enters_fw Try.func34 (by kernel_rfl) rfl) #[.int .i64 y] (by rfl) rfl rfl rfl (by (try simp only [List.map_toArray, List.map_cons, List.map_nil]); first | done | rfl) ?_
  (with_reducible refine (old_WithoutVertex v V _ BV.out y).mono ?_)
  rintro e w' ⟨rfl, ⟨nd, rfl⟩⟩
  refine ⟨_, rfl, ?_⟩
  have n0_ := Aside0.mk (Drawn0.step HB.out nd)
  have n1_ := Aside0.mk (blk_drewN BG.out nd)
  have n2_ := Aside0.mk (blk_drewN BV.out nd)
  have n3_ := Aside0.mk (blk_drewN BO.out nd)
  have n4_ := Aside0.mk (show (w2.drewN nd).cell? (ad.add (oldV v x).toNat) = some (.int .i64 (rd l (oldV v x))) from HX.out)
  clear HB BG BV BO HX hHeld
  have HB := n0_
  have BG := n1_
  have BV := n2_
  have BO := n3_
  have HX := n4_
  clear n0_ n1_ n2_ n3_ n4_
  generalize w2.drewN nd = w3 at HB BG BV BO HX ⊢
  refine hK.out _ _ ⟨(blk_cell BG.out 1).trans rfl, (blk_cell BO.out 0).trans rfl, HX.out⟩ (fun hHeld => ?_)
  clear hK K
  refine norm_ (a' := ?_) ?_ ?_
  rotate_left
  · show Act.put _ (some 16) _ = _
    simp only [Act.put, List.setIfInBounds_toArray, List.set_cons_zero, List.set_cons_succ, i64_w, i32_w]
    rfl
  refine one_ (i := 10) (N := some 17) #[true, true, true, true, true, true, true, true, true, true, true, false] rfl rfl (by kernel_rfl) (by decide) (fun K hK => ?_)
  refine goes_ Try.func37 (by kernel_rfl) rfl #[.int .i64 (rd l (oldV v x)), .int .i64 (oldV v y)] (by rfl) rfl rfl (by (try simp only [List.map_toArray, List.map_cons, List.map_nil]); first | done | rfl) ?_
  (with_reducible refine (impl_has.calls (rd l (oldV v x)) (oldV v y) b _ HH.out).mono ?_)
  rintro e w' ⟨rfl, ⟨nd, rfl⟩⟩
  refine ⟨_, rfl, ?_⟩
  have n0_ := Aside0.mk (Drawn0.step HB.out nd)
  have n1_ := Aside0.mk (blk_drewN BG.out nd)
  have n2_ := Aside0.mk (blk_drewN BV.out nd)
  have n3_ := Aside0.mk (blk_drewN BO.out nd)
  have n4_ := Aside0.mk (show (w3.drewN nd).cell? (ad.add (oldV v x).toNat) = some (.int .i64 (rd l (oldV v x))) from HX.out)
  clear HB BG BV BO HX hHeld
  have HB := n0_
  have BG := n1_
  have BV := n2_
  have BO := n3_
  have HX := n4_
  clear n0_ n1_ n2_ n3_ n4_
  generalize w3.drewN nd = w4 at HB BG BV BO HX ⊢
  refine hK.out _ _ ⟨(blk_cell BG.out 1).trans rfl, (blk_cell BO.out 0).trans rfl, HX.out⟩ (fun hHeld => ?_)
  clear hK K
  refine norm_ (a' := ?_) ?_ ?_
  rotate_left
  · show Act.put _ (some 17) _ = _
    simp only [Act.put, List.setIfInBounds_toArray, List.set_cons_zero, List.set_cons_succ, i64_w, i32_w]
    rfl
  refine pure_ (i := 11) (N := some 6) (v := ?_) (a' := ?_) #[true, true, true, true, true, true, true, true, true, true, true, true] rfl rfl (by kernel_rfl) (fun _ _ _ h => h) (Or.inl ⟨by rfl, ?_⟩) ?_ ?_
  rotate_left
  · intro w'
    go_simp
    with_reducible rfl
  rotate_left
  · simp only [Act.put, List.setIfInBounds_toArray, List.set_cons_zero, List.set_cons_succ, i64_w, i32_w]
    rfl
  refine done_ (by kernel_rfl) ?_
  clear hHeld
  go_wp2_with fail
  go_ret
  exact ⟨by first | rfl | (simp; done) | (simp [*]; done), HB.out⟩
set_option maxHeartbeats 8000000 in
set_option maxRecDepth 100000 in
theorem impl_WithoutVertex.calls (k : Nat) (s : Int) (A : Option Addr) (c : Nat) (l : List Int) (v : Int) (r1 : Int) (r2 : List Int) (r3 : Bool) (w : World) (hr : Kd.C (Kd.int .i64) w A l.length l) (hc : l.length ≤ c) (h : impl_WithoutVertex.f k s l v = some (r1, r2, r3)) :
    Calls Try.prog 9 #[.agg #[.int .i64 s, .slice A l.length c], .int .i64 v] w fun e w' => ∃ v1_ : Value, e = .returned (.tuple #[.agg #[.int .i64 r1, v1_], .bool r3]) ∧ Kd.R (Kd.int .i64) 3 w' w.heap.size (fun _ => True) v1_ r2 ∧ Below w.heap.size w w' := by
  have hu26 := Try.underlying26
  have HR := Aside0.mk hr
  have HC := Aside0.mk hc
  clear hr hc
  have HB := Aside0.mk (Below.refl w.heap.size w)
  unfold impl_WithoutVertex.f at h
  replace h := Option.bind_eq_some_iff.mp h
  obtain ⟨t1, A30, h⟩ := h
  have A3 := Aside0.mk A30
  clear A30
  cases t1 with
  | false =>
    have H1 : some (0, ([] : List Int), false) = some (r1, r2, r3) := h
    clear h
    simp only [Option.some.injEq, Prod.mk.injEq] at H1
    obtain ⟨rfl, rfl, rfl⟩ := H1
    go_enter Try.func9, Try.ntmps9
    go_wp2_with (first | ((with_reducible refine gate_dst (N := 2) rfl ?_); refine box_event ?hg (N := 2) ?hd (cs := #[.int .i64 s, .slice A l.length c]) (t := 26) ?hr ?_; (case hd => rfl); (case hg => rfl); (case hr => first | (go_simp; done) | (go_simp; rfl)); intro gG hg wa hbox hb; have GEBG := Aside0.mk ((by rw [hg]; exact (below_size (by repeat (first | (with_reducible first | exact HB.out | apply below_alloc | apply pw_below_drewN | apply below_drew1) | exact HB.out)))) : w.heap.size ≤ gG); have BG := Aside0.mk hbox; clear hbox hg; have hc4_0 : wa.cell? ⟨gG, 0, none⟩ = some (.int .i64 s) := (blk_cell BG.out 0).trans rfl; have hc4_1 : wa.cell? ⟨gG, 1, none⟩ = some (.slice A l.length c) := (blk_cell BG.out 1).trans rfl; have hf4_0 := blk_frozen BG.out 0; have hf4_1 := blk_frozen BG.out 1; have nh_ := Aside0.mk (below_step (by repeat (first | (with_reducible first | exact HB.out | apply below_alloc | apply pw_below_drewN | apply below_drew1) | exact HB.out)) hb); clear HB; have HB := nh_; clear nh_; clear hb) | ((with_reducible refine gate_dst (N := 3) rfl ?_); refine box_event ?hg (N := 3) ?hd (cs := #[.int .i64 v]) (t := 3) ?hr ?_; (case hd => rfl); (case hg => rfl); (case hr => first | (go_simp; done) | (go_simp; rfl)); intro gV hg wb hbox hb; have GEBV := Aside0.mk ((by rw [hg]; exact (below_size (by repeat (first | (with_reducible first | exact HB.out | apply below_alloc | apply pw_below_drewN | apply below_drew1) | exact HB.out)))) : w.heap.size ≤ gV); have BV := Aside0.mk hbox; clear hbox hg; have hc5_0 : wb.cell? ⟨gV, 0, none⟩ = some (.int .i64 v) := (blk_cell BV.out 0).trans rfl; have hf5_0 := blk_frozen BV.out 0; have nbBG_ := Aside0.mk (blk_below (g := gG) (o := .cells #[.int .i64 s, .slice A l.length c] 26 (0, 0)) (by (with_reducible repeat (first | refine blk_drewN ?_ _ | refine blk_drew ?_ | refine blk_alloc ?_ _)); exact BG.out) hb); clear BG; have BG := nbBG_; clear nbBG_; have nh_ := Aside0.mk (below_step (by repeat (first | (with_reducible first | exact HB.out | apply below_alloc | apply pw_below_drewN | apply below_drew1) | exact HB.out)) hb); clear HB; have HB := nh_; clear nh_; have hc6_0 : wb.cell? ⟨gG, 0, none⟩ = some (.int .i64 s) := (blk_cell BG.out 0).trans rfl; have hc6_1 : wb.cell? ⟨gG, 1, none⟩ = some (.slice A l.length c) := (blk_cell BG.out 1).trans rfl; have hf6_0 := blk_frozen BG.out 0; have hf6_1 := blk_frozen BG.out 1; clear hb) | ((with_reducible refine gate_dst (N := 4) rfl ?_); refine box_event ?hg (N := 4) ?hd (cs := #[.int .i64 0, .slice none 0 0]) (t := 26) ?hr ?_; (case hd => rfl); (case hg => rfl); (case hr => first | (go_simp; done) | (go_simp; rfl)); intro gR hg wc hbox hb; have GEBR := Aside0.mk ((by rw [hg]; exact (below_size (by repeat (first | (with_reducible first | exact HB.out | apply below_alloc | apply pw_below_drewN | apply below_drew1) | exact HB.out)))) : w.heap.size ≤ gR); have BR := Aside0.mk hbox; clear hbox hg; have hc7_0 : wc.cell? ⟨gR, 0, none⟩ = some (.int .i64 0) := (blk_cell BR.out 0).trans rfl; have hc7_1 : wc.cell? ⟨gR, 1, none⟩ = some (.slice none 0 0) := (blk_cell BR.out 1).trans rfl; have hf7_0 := blk_frozen BR.out 0; have hf7_1 := blk_frozen BR.out 1; have nbBG_ := Aside0.mk (blk_below (g := gG) (o := .cells #[.int .i64 s, .slice A l.length c] 26 (0, 0)) (by (with_reducible repeat (first | refine blk_drewN ?_ _ | refine blk_drew ?_ | refine blk_alloc ?_ _)); exact BG.out) hb); clear BG; have BG := nbBG_; clear nbBG_; have nbBV_ := Aside0.mk (blk_below (g := gV) (o := .cells #[.int .i64 v] 3 (0, 0)) (by (with_reducible repeat (first | refine blk_drewN ?_ _ | refine blk_drew ?_ | refine blk_alloc ?_ _)); exact BV.out) hb); clear BV; have BV := nbBV_; clear nbBV_; have nh_ := Aside0.mk (below_step (by repeat (first | (with_reducible first | exact HB.out | apply below_alloc | apply pw_below_drewN | apply below_drew1) | exact HB.out)) hb); clear HB; have HB := nh_; clear nh_; have hc8_0 : wc.cell? ⟨gG, 0, none⟩ = some (.int .i64 s) := (blk_cell BG.out 0).trans rfl; have hc8_1 : wc.cell? ⟨gG, 1, none⟩ = some (.slice A l.length c) := (blk_cell BG.out 1).trans rfl; have hf8_0 := blk_frozen BG.out 0; have hf8_1 := blk_frozen BG.out 1; have hc9_0 : wc.cell? ⟨gV, 0, none⟩ = some (.int .i64 v) := (blk_cell BV.out 0).trans rfl; have hf9_0 := blk_frozen BV.out 0; clear hb) | ((with_reducible refine gate_dst (N := 9) rfl ?_); refine Kd.R_lit (Kd.int .i64) _ 3 ?hg (N := 9) ?hd (xs := ([v] : List Int)) (inner := [.int .i64 v]) (ok := fun _ => True) (okp := fun _ => True) ?hr ?hp (fun _ hk => hk) trivial (Below.refl _ _) (Nat.le_refl _) (by simp) ?_; (case hd => rfl); (case hg => rfl); (case hr => first | (go_simp; done) | (go_simp; rfl)); (case hp => exact (Reps.one (show Kd.M (Kd.int .i64) _ _ _ v [.int .i64 v] from rfl) (Reps.none _ _))); intro vl wd ho11 hb hg_ hnew_; clear hg_ hnew_; have HO := Aside0.mk (Kd.R_lower ho11 (below_size (by repeat (first | (with_reducible first | exact HB.out | apply below_alloc | apply pw_below_drewN | apply below_drew1) | exact HB.out)))); clear ho11; have nbBG_ := Aside0.mk (blk_below (g := gG) (o := .cells #[.int .i64 s, .slice A l.length c] 26 (0, 0)) (by (with_reducible repeat (first | refine blk_drewN ?_ _ | refine blk_drew ?_ | refine blk_alloc ?_ _)); exact BG.out) hb); clear BG; have BG := nbBG_; clear nbBG_; have nbBV_ := Aside0.mk (blk_below (g := gV) (o := .cells #[.int .i64 v] 3 (0, 0)) (by (with_reducible repeat (first | refine blk_drewN ?_ _ | refine blk_drew ?_ | refine blk_alloc ?_ _)); exact BV.out) hb); clear BV; have BV := nbBV_; clear nbBV_; have nbBR_ := Aside0.mk (blk_below (g := gR) (o := .cells #[.int .i64 0, .slice none 0 0] 26 (0, 0)) (by (with_reducible repeat (first | refine blk_drewN ?_ _ | refine blk_drew ?_ | refine blk_alloc ?_ _)); exact BR.out) hb); clear BR; have BR := nbBR_; clear nbBR_; have nh_ := Aside0.mk (below_step (by repeat (first | (with_reducible first | exact HB.out | apply below_alloc | apply pw_below_drewN | apply below_drew1) | exact HB.out)) hb); clear HB; have HB := nh_; clear nh_; have hc10_0 : wd.cell? ⟨gG, 0, none⟩ = some (.int .i64 s) := (blk_cell BG.out 0).trans rfl; have hc10_1 : wd.cell? ⟨gG, 1, none⟩ = some (.slice A l.length c) := (blk_cell BG.out 1).trans rfl; have hf10_0 := blk_frozen BG.out 0; have hf10_1 := blk_frozen BG.out 1; have hc11_0 : wd.cell? ⟨gV, 0, none⟩ = some (.int .i64 v) := (blk_cell BV.out 0).trans rfl; have hf11_0 := blk_frozen BV.out 0; have hc12_0 : wd.cell? ⟨gR, 0, none⟩ = some (.int .i64 0) := (blk_cell BR.out 0).trans rfl; have hc12_1 : wd.cell? ⟨gR, 1, none⟩ = some (.slice none 0 0) := (blk_cell BR.out 1).trans rfl; have hf12_0 := blk_frozen BR.out 0; have hf12_1 := blk_frozen BR.out 1;  clear hb; obtain ⟨Ao, co, eo⟩ := Kd.R_slice HO.out; subst eo))
    (refine (impl_Graph_hold.calls k s A c l Ao co [v] false _ (Kd.C_below HR.out HB.out) HC.out (Kd.R_reads' HO.out).2.2 (Kd.R_reads' HO.out).2.1 A3.out).mono ?_)
    rintro e we ⟨rfl, hb⟩
    clear HO
    have nbBG_ := Aside0.mk (blk_below (g := gG) (o := .cells #[.int .i64 s, .slice A l.length c] 26 (0, 0)) (by (with_reducible repeat (first | refine blk_drewN ?_ _ | refine blk_drew ?_ | refine blk_alloc ?_ _)); exact BG.out) hb); clear BG; have BG := nbBG_; clear nbBG_; have nbBV_ := Aside0.mk (blk_below (g := gV) (o := .cells #[.int .i64 v] 3 (0, 0)) (by (with_reducible repeat (first | refine blk_drewN ?_ _ | refine blk_drew ?_ | refine blk_alloc ?_ _)); exact BV.out) hb); clear BV; have BV := nbBV_; clear nbBV_; have nbBR_ := Aside0.mk (blk_below (g := gR) (o := .cells #[.int .i64 0, .slice none 0 0] 26 (0, 0)) (by (with_reducible repeat (first | refine blk_drewN ?_ _ | refine blk_drew ?_ | refine blk_alloc ?_ _)); exact BR.out) hb); clear BR; have BR := nbBR_; clear nbBR_; have nh_ := Aside0.mk (below_step (by repeat (first | (with_reducible first | exact HB.out | apply below_alloc | apply pw_below_drewN | apply below_drew1) | exact HB.out)) hb); clear HB; have HB := nh_; clear nh_; have hc13_0 : we.cell? ⟨gG, 0, none⟩ = some (.int .i64 s) := (blk_cell BG.out 0).trans rfl; have hc13_1 : we.cell? ⟨gG, 1, none⟩ = some (.slice A l.length c) := (blk_cell BG.out 1).trans rfl; have hf13_0 := blk_frozen BG.out 0; have hf13_1 := blk_frozen BG.out 1; have hc14_0 : we.cell? ⟨gV, 0, none⟩ = some (.int .i64 v) := (blk_cell BV.out 0).trans rfl; have hf14_0 := blk_frozen BV.out 0; have hc15_0 : we.cell? ⟨gR, 0, none⟩ = some (.int .i64 0) := (blk_cell BR.out 0).trans rfl; have hc15_1 : we.cell? ⟨gR, 1, none⟩ = some (.slice none 0 0) := (blk_cell BR.out 1).trans rfl; have hf15_0 := blk_frozen BR.out 0; have hf15_1 := blk_frozen BR.out 1
    clear hb
    go_wp2_with fail
    refine bodyPost_ret (results_ct rfl _ _ gR 26 #[.int .i64 0, .slice none 0 0] (0, 0) _ rfl (by (with_reducible repeat (first | refine blk_drewN ?_ _ | refine blk_drew ?_ | refine blk_alloc ?_ _)); refine blk_put (cs := #[.int .i64 0, .slice none 0 0]) ?_ 1 _ rfl; (with_reducible repeat (first | refine blk_drewN ?_ _ | refine blk_drew ?_ | refine blk_alloc ?_ _)); refine blk_put (cs := #[.int .i64 0, .slice none 0 0]) ?_ 0 _ rfl; (with_reducible repeat (first | refine blk_drewN ?_ _ | refine blk_drew ?_ | refine blk_alloc ?_ _)); exact BR.out) Try.underlying26 rfl (by kernel_rfl)) rfl ?_
    exact ⟨_, by first | rfl | (simp [errW_none, errW_some] <;> rfl) | (simp [*, errW_none, errW_some] <;> rfl), by first | exact Kd.R_nil _ _ _ _ _ | exact Kd.N_nil _ _ _ _ _ | exact Kd.V_nil _ _ _ _ _ | exact Kd.Q_nil _ _ _ _ _ | exact Kd.S_nil _ _ _ _ _, by repeat (first | (with_reducible first | exact HB.out | apply below_alloc | apply pw_below_drewN | apply below_drew1 | refine below_set ?_ GEBR.out) | exact HB.out)⟩
  | true =>
    replace h : (if s = 1 then some (0, ([] : List Int), false) else ((impl_graphOf.f (edgeWithout l v) k (wrap64 (s - 1))).bind fun g => some (g.1, g.2.1, g.2.2))) = some (r1, r2, r3) := h
    by_cases c1 : s = 1
    · rw [if_pos c1] at h
      have c1b : (s == 1) = true := beq_iff_eq.mpr c1
      clear c1
      simp only [Option.some.injEq, Prod.mk.injEq] at h
      obtain ⟨rfl, rfl, rfl⟩ := h
      go_enter Try.func9, Try.ntmps9
      go_wp2_with (first | ((with_reducible refine gate_dst (N := 2) rfl ?_); refine box_event ?hg (N := 2) ?hd (cs := #[.int .i64 s, .slice A l.length c]) (t := 26) ?hr ?_; (case hd => rfl); (case hg => rfl); (case hr => first | (go_simp; done) | (go_simp; rfl)); intro gG hg wa hbox hb; have GEBG := Aside0.mk ((by rw [hg]; exact (below_size (by repeat (first | (with_reducible first | exact HB.out | apply below_alloc | apply pw_below_drewN | apply below_drew1) | exact HB.out)))) : w.heap.size ≤ gG); have BG := Aside0.mk hbox; clear hbox hg; have hc4_0 : wa.cell? ⟨gG, 0, none⟩ = some (.int .i64 s) := (blk_cell BG.out 0).trans rfl; have hc4_1 : wa.cell? ⟨gG, 1, none⟩ = some (.slice A l.length c) := (blk_cell BG.out 1).trans rfl; have hf4_0 := blk_frozen BG.out 0; have hf4_1 := blk_frozen BG.out 1; have nh_ := Aside0.mk (below_step (by repeat (first | (with_reducible first | exact HB.out | apply below_alloc | apply pw_below_drewN | apply below_drew1) | exact HB.out)) hb); clear HB; have HB := nh_; clear nh_; clear hb) | ((with_reducible refine gate_dst (N := 3) rfl ?_); refine box_event ?hg (N := 3) ?hd (cs := #[.int .i64 v]) (t := 3) ?hr ?_; (case hd => rfl); (case hg => rfl); (case hr => first | (go_simp; done) | (go_simp; rfl)); intro gV hg wb hbox hb; have GEBV := Aside0.mk ((by rw [hg]; exact (below_size (by repeat (first | (with_reducible first | exact HB.out | apply below_alloc | apply pw_below_drewN | apply below_drew1) | exact HB.out)))) : w.heap.size ≤ gV); have BV := Aside0.mk hbox; clear hbox hg; have hc5_0 : wb.cell? ⟨gV, 0, none⟩ = some (.int .i64 v) := (blk_cell BV.out 0).trans rfl; have hf5_0 := blk_frozen BV.out 0; have nbBG_ := Aside0.mk (blk_below (g := gG) (o := .cells #[.int .i64 s, .slice A l.length c] 26 (0, 0)) (by (with_reducible repeat (first | refine blk_drewN ?_ _ | refine blk_drew ?_ | refine blk_alloc ?_ _)); exact BG.out) hb); clear BG; have BG := nbBG_; clear nbBG_; have nh_ := Aside0.mk (below_step (by repeat (first | (with_reducible first | exact HB.out | apply below_alloc | apply pw_below_drewN | apply below_drew1) | exact HB.out)) hb); clear HB; have HB := nh_; clear nh_; have hc6_0 : wb.cell? ⟨gG, 0, none⟩ = some (.int .i64 s) := (blk_cell BG.out 0).trans rfl; have hc6_1 : wb.cell? ⟨gG, 1, none⟩ = some (.slice A l.length c) := (blk_cell BG.out 1).trans rfl; have hf6_0 := blk_frozen BG.out 0; have hf6_1 := blk_frozen BG.out 1; clear hb) | ((with_reducible refine gate_dst (N := 4) rfl ?_); refine box_event ?hg (N := 4) ?hd (cs := #[.int .i64 0, .slice none 0 0]) (t := 26) ?hr ?_; (case hd => rfl); (case hg => rfl); (case hr => first | (go_simp; done) | (go_simp; rfl)); intro gR hg wc hbox hb; have GEBR := Aside0.mk ((by rw [hg]; exact (below_size (by repeat (first | (with_reducible first | exact HB.out | apply below_alloc | apply pw_below_drewN | apply below_drew1) | exact HB.out)))) : w.heap.size ≤ gR); have BR := Aside0.mk hbox; clear hbox hg; have hc7_0 : wc.cell? ⟨gR, 0, none⟩ = some (.int .i64 0) := (blk_cell BR.out 0).trans rfl; have hc7_1 : wc.cell? ⟨gR, 1, none⟩ = some (.slice none 0 0) := (blk_cell BR.out 1).trans rfl; have hf7_0 := blk_frozen BR.out 0; have hf7_1 := blk_frozen BR.out 1; have nbBG_ := Aside0.mk (blk_below (g := gG) (o := .cells #[.int .i64 s, .slice A l.length c] 26 (0, 0)) (by (with_reducible repeat (first | refine blk_drewN ?_ _ | refine blk_drew ?_ | refine blk_alloc ?_ _)); exact BG.out) hb); clear BG; have BG := nbBG_; clear nbBG_; have nbBV_ := Aside0.mk (blk_below (g := gV) (o := .cells #[.int .i64 v] 3 (0, 0)) (by (with_reducible repeat (first | refine blk_drewN ?_ _ | refine blk_drew ?_ | refine blk_alloc ?_ _)); exact BV.out) hb); clear BV; have BV := nbBV_; clear nbBV_; have nh_ := Aside0.mk (below_step (by repeat (first | (with_reducible first | exact HB.out | apply below_alloc | apply pw_below_drewN | apply below_drew1) | exact HB.out)) hb); clear HB; have HB := nh_; clear nh_; have hc8_0 : wc.cell? ⟨gG, 0, none⟩ = some (.int .i64 s) := (blk_cell BG.out 0).trans rfl; have hc8_1 : wc.cell? ⟨gG, 1, none⟩ = some (.slice A l.length c) := (blk_cell BG.out 1).trans rfl; have hf8_0 := blk_frozen BG.out 0; have hf8_1 := blk_frozen BG.out 1; have hc9_0 : wc.cell? ⟨gV, 0, none⟩ = some (.int .i64 v) := (blk_cell BV.out 0).trans rfl; have hf9_0 := blk_frozen BV.out 0; clear hb) | ((with_reducible refine gate_dst (N := 9) rfl ?_); refine Kd.R_lit (Kd.int .i64) _ 3 ?hg (N := 9) ?hd (xs := ([v] : List Int)) (inner := [.int .i64 v]) (ok := fun _ => True) (okp := fun _ => True) ?hr ?hp (fun _ hk => hk) trivial (Below.refl _ _) (Nat.le_refl _) (by simp) ?_; (case hd => rfl); (case hg => rfl); (case hr => first | (go_simp; done) | (go_simp; rfl)); (case hp => exact (Reps.one (show Kd.M (Kd.int .i64) _ _ _ v [.int .i64 v] from rfl) (Reps.none _ _))); intro vl wd ho11 hb hg_ hnew_; clear hg_ hnew_; have HO := Aside0.mk (Kd.R_lower ho11 (below_size (by repeat (first | (with_reducible first | exact HB.out | apply below_alloc | apply pw_below_drewN | apply below_drew1) | exact HB.out)))); clear ho11; have nbBG_ := Aside0.mk (blk_below (g := gG) (o := .cells #[.int .i64 s, .slice A l.length c] 26 (0, 0)) (by (with_reducible repeat (first | refine blk_drewN ?_ _ | refine blk_drew ?_ | refine blk_alloc ?_ _)); exact BG.out) hb); clear BG; have BG := nbBG_; clear nbBG_; have nbBV_ := Aside0.mk (blk_below (g := gV) (o := .cells #[.int .i64 v] 3 (0, 0)) (by (with_reducible repeat (first | refine blk_drewN ?_ _ | refine blk_drew ?_ | refine blk_alloc ?_ _)); exact BV.out) hb); clear BV; have BV := nbBV_; clear nbBV_; have nbBR_ := Aside0.mk (blk_below (g := gR) (o := .cells #[.int .i64 0, .slice none 0 0] 26 (0, 0)) (by (with_reducible repeat (first | refine blk_drewN ?_ _ | refine blk_drew ?_ | refine blk_alloc ?_ _)); exact BR.out) hb); clear BR; have BR := nbBR_; clear nbBR_; have nh_ := Aside0.mk (below_step (by repeat (first | (with_reducible first | exact HB.out | apply below_alloc | apply pw_below_drewN | apply below_drew1) | exact HB.out)) hb); clear HB; have HB := nh_; clear nh_; have hc10_0 : wd.cell? ⟨gG, 0, none⟩ = some (.int .i64 s) := (blk_cell BG.out 0).trans rfl; have hc10_1 : wd.cell? ⟨gG, 1, none⟩ = some (.slice A l.length c) := (blk_cell BG.out 1).trans rfl; have hf10_0 := blk_frozen BG.out 0; have hf10_1 := blk_frozen BG.out 1; have hc11_0 : wd.cell? ⟨gV, 0, none⟩ = some (.int .i64 v) := (blk_cell BV.out 0).trans rfl; have hf11_0 := blk_frozen BV.out 0; have hc12_0 : wd.cell? ⟨gR, 0, none⟩ = some (.int .i64 0) := (blk_cell BR.out 0).trans rfl; have hc12_1 : wd.cell? ⟨gR, 1, none⟩ = some (.slice none 0 0) := (blk_cell BR.out 1).trans rfl; have hf12_0 := blk_frozen BR.out 0; have hf12_1 := blk_frozen BR.out 1;  clear hb; obtain ⟨Ao, co, eo⟩ := Kd.R_slice HO.out; subst eo))
      (refine (impl_Graph_hold.calls k s A c l Ao co [v] true _ (Kd.C_below HR.out HB.out) HC.out (Kd.R_reads' HO.out).2.2 (Kd.R_reads' HO.out).2.1 A3.out).mono ?_)
      rintro e we ⟨rfl, hb⟩
      clear HO
      have nbBG_ := Aside0.mk (blk_below (g := gG) (o := .cells #[.int .i64 s, .slice A l.length c] 26 (0, 0)) (by (with_reducible repeat (first | refine blk_drewN ?_ _ | refine blk_drew ?_ | refine blk_alloc ?_ _)); exact BG.out) hb); clear BG; have BG := nbBG_; clear nbBG_; have nbBV_ := Aside0.mk (blk_below (g := gV) (o := .cells #[.int .i64 v] 3 (0, 0)) (by (with_reducible repeat (first | refine blk_drewN ?_ _ | refine blk_drew ?_ | refine blk_alloc ?_ _)); exact BV.out) hb); clear BV; have BV := nbBV_; clear nbBV_; have nbBR_ := Aside0.mk (blk_below (g := gR) (o := .cells #[.int .i64 0, .slice none 0 0] 26 (0, 0)) (by (with_reducible repeat (first | refine blk_drewN ?_ _ | refine blk_drew ?_ | refine blk_alloc ?_ _)); exact BR.out) hb); clear BR; have BR := nbBR_; clear nbBR_; have nh_ := Aside0.mk (below_step (by repeat (first | (with_reducible first | exact HB.out | apply below_alloc | apply pw_below_drewN | apply below_drew1) | exact HB.out)) hb); clear HB; have HB := nh_; clear nh_; have hc13_0 : we.cell? ⟨gG, 0, none⟩ = some (.int .i64 s) := (blk_cell BG.out 0).trans rfl; have hc13_1 : we.cell? ⟨gG, 1, none⟩ = some (.slice A l.length c) := (blk_cell BG.out 1).trans rfl; have hf13_0 := blk_frozen BG.out 0; have hf13_1 := blk_frozen BG.out 1; have hc14_0 : we.cell? ⟨gV, 0, none⟩ = some (.int .i64 v) := (blk_cell BV.out 0).trans rfl; have hf14_0 := blk_frozen BV.out 0; have hc15_0 : we.cell? ⟨gR, 0, none⟩ = some (.int .i64 0) := (blk_cell BR.out 0).trans rfl; have hc15_1 : we.cell? ⟨gR, 1, none⟩ = some (.slice none 0 0) := (blk_cell BR.out 1).trans rfl; have hf15_0 := blk_frozen BR.out 0; have hf15_1 := blk_frozen BR.out 1
      clear hb
      go_wp2_with fail
      refine bodyPost_ret (results_ct rfl _ _ gR 26 #[.int .i64 0, .slice none 0 0] (0, 0) _ rfl (by (with_reducible repeat (first | refine blk_drewN ?_ _ | refine blk_drew ?_ | refine blk_alloc ?_ _)); refine blk_put (cs := #[.int .i64 0, .slice none 0 0]) ?_ 1 _ rfl; (with_reducible repeat (first | refine blk_drewN ?_ _ | refine blk_drew ?_ | refine blk_alloc ?_ _)); refine blk_put (cs := #[.int .i64 0, .slice none 0 0]) ?_ 0 _ rfl; (with_reducible repeat (first | refine blk_drewN ?_ _ | refine blk_drew ?_ | refine blk_alloc ?_ _)); exact BR.out) Try.underlying26 rfl (by kernel_rfl)) rfl ?_
      exact ⟨_, by first | rfl | (simp [errW_none, errW_some] <;> rfl) | (simp [*, errW_none, errW_some] <;> rfl), by first | exact Kd.R_nil _ _ _ _ _ | exact Kd.N_nil _ _ _ _ _ | exact Kd.V_nil _ _ _ _ _ | exact Kd.Q_nil _ _ _ _ _ | exact Kd.S_nil _ _ _ _ _, by repeat (first | (with_reducible first | exact HB.out | apply below_alloc | apply pw_below_drewN | apply below_drew1 | refine below_set ?_ GEBR.out) | exact HB.out)⟩
    · rw [if_neg c1] at h
      have c1b : (s == 1) = false := beq_eq_false_iff_ne.mpr c1
      clear c1
      replace h := Option.bind_eq_some_iff.mp h
      obtain ⟨⟨t117, t118, t121⟩, A40, H⟩ := h
      replace H : some (t117, t118, t121) = some (r1, r2, r3) := H
      have A4 := Aside0.mk A40
      clear A40
      simp only [Option.some.injEq, Prod.mk.injEq] at H
      obtain ⟨rfl, rfl, rfl⟩ := H
      go_enter Try.func9, Try.ntmps9
      go_wp2_with (first | ((with_reducible refine gate_dst (N := 2) rfl ?_); refine box_event ?hg (N := 2) ?hd (cs := #[.int .i64 s, .slice A l.length c]) (t := 26) ?hr ?_; (case hd => rfl); (case hg => rfl); (case hr => first | (go_simp; done) | (go_simp; rfl)); intro gG hg wa hbox hb; have GEBG := Aside0.mk ((by rw [hg]; exact (below_size (by repeat (first | (with_reducible first | exact HB.out | apply below_alloc | apply pw_below_drewN | apply below_drew1) | exact HB.out)))) : w.heap.size ≤ gG); have BG := Aside0.mk hbox; clear hbox hg; have hc4_0 : wa.cell? ⟨gG, 0, none⟩ = some (.int .i64 s) := (blk_cell BG.out 0).trans rfl; have hc4_1 : wa.cell? ⟨gG, 1, none⟩ = some (.slice A l.length c) := (blk_cell BG.out 1).trans rfl; have hf4_0 := blk_frozen BG.out 0; have hf4_1 := blk_frozen BG.out 1; have nh_ := Aside0.mk (below_step (by repeat (first | (with_reducible first | exact HB.out | apply below_alloc | apply pw_below_drewN | apply below_drew1) | exact HB.out)) hb); clear HB; have HB := nh_; clear nh_; clear hb) | ((with_reducible refine gate_dst (N := 3) rfl ?_); refine box_event ?hg (N := 3) ?hd (cs := #[.int .i64 v]) (t := 3) ?hr ?_; (case hd => rfl); (case hg => rfl); (case hr => first | (go_simp; done) | (go_simp; rfl)); intro gV hg wb hbox hb; have GEBV := Aside0.mk ((by rw [hg]; exact (below_size (by repeat (first | (with_reducible first | exact HB.out | apply below_alloc | apply pw_below_drewN | apply below_drew1) | exact HB.out)))) : w.heap.size ≤ gV); have BV := Aside0.mk hbox; clear hbox hg; have hc5_0 : wb.cell? ⟨gV, 0, none⟩ = some (.int .i64 v) := (blk_cell BV.out 0).trans rfl; have hf5_0 := blk_frozen BV.out 0; have nbBG_ := Aside0.mk (blk_below (g := gG) (o := .cells #[.int .i64 s, .slice A l.length c] 26 (0, 0)) (by (with_reducible repeat (first | refine blk_drewN ?_ _ | refine blk_drew ?_ | refine blk_alloc ?_ _)); exact BG.out) hb); clear BG; have BG := nbBG_; clear nbBG_; have nh_ := Aside0.mk (below_step (by repeat (first | (with_reducible first | exact HB.out | apply below_alloc | apply pw_below_drewN | apply below_drew1) | exact HB.out)) hb); clear HB; have HB := nh_; clear nh_; have hc6_0 : wb.cell? ⟨gG, 0, none⟩ = some (.int .i64 s) := (blk_cell BG.out 0).trans rfl; have hc6_1 : wb.cell? ⟨gG, 1, none⟩ = some (.slice A l.length c) := (blk_cell BG.out 1).trans rfl; have hf6_0 := blk_frozen BG.out 0; have hf6_1 := blk_frozen BG.out 1; clear hb) | ((with_reducible refine gate_dst (N := 4) rfl ?_); refine box_event ?hg (N := 4) ?hd (cs := #[.int .i64 0, .slice none 0 0]) (t := 26) ?hr ?_; (case hd => rfl); (case hg => rfl); (case hr => first | (go_simp; done) | (go_simp; rfl)); intro gR hg wc hbox hb; have GEBR := Aside0.mk ((by rw [hg]; exact (below_size (by repeat (first | (with_reducible first | exact HB.out | apply below_alloc | apply pw_below_drewN | apply below_drew1) | exact HB.out)))) : w.heap.size ≤ gR); have BR := Aside0.mk hbox; clear hbox hg; have hc7_0 : wc.cell? ⟨gR, 0, none⟩ = some (.int .i64 0) := (blk_cell BR.out 0).trans rfl; have hc7_1 : wc.cell? ⟨gR, 1, none⟩ = some (.slice none 0 0) := (blk_cell BR.out 1).trans rfl; have hf7_0 := blk_frozen BR.out 0; have hf7_1 := blk_frozen BR.out 1; have nbBG_ := Aside0.mk (blk_below (g := gG) (o := .cells #[.int .i64 s, .slice A l.length c] 26 (0, 0)) (by (with_reducible repeat (first | refine blk_drewN ?_ _ | refine blk_drew ?_ | refine blk_alloc ?_ _)); exact BG.out) hb); clear BG; have BG := nbBG_; clear nbBG_; have nbBV_ := Aside0.mk (blk_below (g := gV) (o := .cells #[.int .i64 v] 3 (0, 0)) (by (with_reducible repeat (first | refine blk_drewN ?_ _ | refine blk_drew ?_ | refine blk_alloc ?_ _)); exact BV.out) hb); clear BV; have BV := nbBV_; clear nbBV_; have nh_ := Aside0.mk (below_step (by repeat (first | (with_reducible first | exact HB.out | apply below_alloc | apply pw_below_drewN | apply below_drew1) | exact HB.out)) hb); clear HB; have HB := nh_; clear nh_; have hc8_0 : wc.cell? ⟨gG, 0, none⟩ = some (.int .i64 s) := (blk_cell BG.out 0).trans rfl; have hc8_1 : wc.cell? ⟨gG, 1, none⟩ = some (.slice A l.length c) := (blk_cell BG.out 1).trans rfl; have hf8_0 := blk_frozen BG.out 0; have hf8_1 := blk_frozen BG.out 1; have hc9_0 : wc.cell? ⟨gV, 0, none⟩ = some (.int .i64 v) := (blk_cell BV.out 0).trans rfl; have hf9_0 := blk_frozen BV.out 0; clear hb) | ((with_reducible refine gate_dst (N := 9) rfl ?_); refine Kd.R_lit (Kd.int .i64) _ 3 ?hg (N := 9) ?hd (xs := ([v] : List Int)) (inner := [.int .i64 v]) (ok := fun _ => True) (okp := fun _ => True) ?hr ?hp (fun _ hk => hk) trivial (Below.refl _ _) (Nat.le_refl _) (by simp) ?_; (case hd => rfl); (case hg => rfl); (case hr => first | (go_simp; done) | (go_simp; rfl)); (case hp => exact (Reps.one (show Kd.M (Kd.int .i64) _ _ _ v [.int .i64 v] from rfl) (Reps.none _ _))); intro vl wd ho11 hb hg_ hnew_; clear hg_ hnew_; have HO := Aside0.mk (Kd.R_lower ho11 (below_size (by repeat (first | (with_reducible first | exact HB.out | apply below_alloc | apply pw_below_drewN | apply below_drew1) | exact HB.out)))); clear ho11; have nbBG_ := Aside0.mk (blk_below (g := gG) (o := .cells #[.int .i64 s, .slice A l.length c] 26 (0, 0)) (by (with_reducible repeat (first | refine blk_drewN ?_ _ | refine blk_drew ?_ | refine blk_alloc ?_ _)); exact BG.out) hb); clear BG; have BG := nbBG_; clear nbBG_; have nbBV_ := Aside0.mk (blk_below (g := gV) (o := .cells #[.int .i64 v] 3 (0, 0)) (by (with_reducible repeat (first | refine blk_drewN ?_ _ | refine blk_drew ?_ | refine blk_alloc ?_ _)); exact BV.out) hb); clear BV; have BV := nbBV_; clear nbBV_; have nbBR_ := Aside0.mk (blk_below (g := gR) (o := .cells #[.int .i64 0, .slice none 0 0] 26 (0, 0)) (by (with_reducible repeat (first | refine blk_drewN ?_ _ | refine blk_drew ?_ | refine blk_alloc ?_ _)); exact BR.out) hb); clear BR; have BR := nbBR_; clear nbBR_; have nh_ := Aside0.mk (below_step (by repeat (first | (with_reducible first | exact HB.out | apply below_alloc | apply pw_below_drewN | apply below_drew1) | exact HB.out)) hb); clear HB; have HB := nh_; clear nh_; have hc10_0 : wd.cell? ⟨gG, 0, none⟩ = some (.int .i64 s) := (blk_cell BG.out 0).trans rfl; have hc10_1 : wd.cell? ⟨gG, 1, none⟩ = some (.slice A l.length c) := (blk_cell BG.out 1).trans rfl; have hf10_0 := blk_frozen BG.out 0; have hf10_1 := blk_frozen BG.out 1; have hc11_0 : wd.cell? ⟨gV, 0, none⟩ = some (.int .i64 v) := (blk_cell BV.out 0).trans rfl; have hf11_0 := blk_frozen BV.out 0; have hc12_0 : wd.cell? ⟨gR, 0, none⟩ = some (.int .i64 0) := (blk_cell BR.out 0).trans rfl; have hc12_1 : wd.cell? ⟨gR, 1, none⟩ = some (.slice none 0 0) := (blk_cell BR.out 1).trans rfl; have hf12_0 := blk_frozen BR.out 0; have hf12_1 := blk_frozen BR.out 1;  clear hb; obtain ⟨Ao, co, eo⟩ := Kd.R_slice HO.out; subst eo))
      (refine (impl_Graph_hold.calls k s A c l Ao co [v] true _ (Kd.C_below HR.out HB.out) HC.out (Kd.R_reads' HO.out).2.2 (Kd.R_reads' HO.out).2.1 A3.out).mono ?_)
      rintro e we ⟨rfl, hb⟩
      clear HO
      have nbBG_ := Aside0.mk (blk_below (g := gG) (o := .cells #[.int .i64 s, .slice A l.length c] 26 (0, 0)) (by (with_reducible repeat (first | refine blk_drewN ?_ _ | refine blk_drew ?_ | refine blk_alloc ?_ _)); exact BG.out) hb); clear BG; have BG := nbBG_; clear nbBG_; have nbBV_ := Aside0.mk (blk_below (g := gV) (o := .cells #[.int .i64 v] 3 (0, 0)) (by (with_reducible repeat (first | refine blk_drewN ?_ _ | refine blk_drew ?_ | refine blk_alloc ?_ _)); exact BV.out) hb); clear BV; have BV := nbBV_; clear nbBV_; have nbBR_ := Aside0.mk (blk_below (g := gR) (o := .cells #[.int .i64 0, .slice none 0 0] 26 (0, 0)) (by (with_reducible repeat (first | refine blk_drewN ?_ _ | refine blk_drew ?_ | refine blk_alloc ?_ _)); exact BR.out) hb); clear BR; have BR := nbBR_; clear nbBR_; have nh_ := Aside0.mk (below_step (by repeat (first | (with_reducible first | exact HB.out | apply below_alloc | apply pw_below_drewN | apply below_drew1) | exact HB.out)) hb); clear HB; have HB := nh_; clear nh_; have hc13_0 : we.cell? ⟨gG, 0, none⟩ = some (.int .i64 s) := (blk_cell BG.out 0).trans rfl; have hc13_1 : we.cell? ⟨gG, 1, none⟩ = some (.slice A l.length c) := (blk_cell BG.out 1).trans rfl; have hf13_0 := blk_frozen BG.out 0; have hf13_1 := blk_frozen BG.out 1; have hc14_0 : we.cell? ⟨gV, 0, none⟩ = some (.int .i64 v) := (blk_cell BV.out 0).trans rfl; have hf14_0 := blk_frozen BV.out 0; have hc15_0 : we.cell? ⟨gR, 0, none⟩ = some (.int .i64 0) := (blk_cell BR.out 0).trans rfl; have hc15_1 : we.cell? ⟨gR, 1, none⟩ = some (.slice none 0 0) := (blk_cell BR.out 1).trans rfl; have hf15_0 := blk_frozen BR.out 0; have hf15_1 := blk_frozen BR.out 1
      clear hb
      go_upto_region 4 with (((with_reducible refine gate_dst (N := 6) rfl ?_); refine box_event ?hg (N := 6) ?hd (cs := #[.nilFunc]) (t := 51) ?hr ?_; (case hd => rfl); (case hg => rfl); (case hr => first | (go_simp; done) | (go_simp; rfl)); intro gO hg wf hbox hb; have GEBO := Aside0.mk ((by rw [hg]; exact (below_size (by repeat (first | (with_reducible first | exact HB.out | apply below_alloc | apply pw_below_drewN | apply below_drew1) | exact HB.out)))) : w.heap.size ≤ gO); have BO := Aside0.mk hbox; clear hbox hg; have hco_ : wf.cell? ⟨gO, 0, none⟩ = some .nilFunc := (blk_cell BO.out 0).trans rfl; have hfo_ := blk_frozen BO.out 0; have nbBG_ := Aside0.mk (blk_below (g := gG) (o := .cells #[.int .i64 s, .slice A l.length c] 26 (0, 0)) (by (with_reducible repeat (first | refine blk_drewN ?_ _ | refine blk_drew ?_ | refine blk_alloc ?_ _)); exact BG.out) hb); clear BG; have BG := nbBG_; clear nbBG_; have nbBV_ := Aside0.mk (blk_below (g := gV) (o := .cells #[.int .i64 v] 3 (0, 0)) (by (with_reducible repeat (first | refine blk_drewN ?_ _ | refine blk_drew ?_ | refine blk_alloc ?_ _)); exact BV.out) hb); clear BV; have BV := nbBV_; clear nbBV_; have nbBR_ := Aside0.mk (blk_below (g := gR) (o := .cells #[.int .i64 0, .slice none 0 0] 26 (0, 0)) (by (with_reducible repeat (first | refine blk_drewN ?_ _ | refine blk_drew ?_ | refine blk_alloc ?_ _)); exact BR.out) hb); clear BR; have BR := nbBR_; clear nbBR_; have nh_ := Aside0.mk (below_step (by repeat (first | (with_reducible first | exact HB.out | apply below_alloc | apply pw_below_drewN | apply below_drew1) | exact HB.out)) hb); clear HB; have HB := nh_; clear nh_; have hc1_0 : wf.cell? ⟨gG, 0, none⟩ = some (.int .i64 s) := (blk_cell BG.out 0).trans rfl; have hc1_1 : wf.cell? ⟨gG, 1, none⟩ = some (.slice A l.length c) := (blk_cell BG.out 1).trans rfl; have hf1_0 := blk_frozen BG.out 0; have hf1_1 := blk_frozen BG.out 1; have hc2_0 : wf.cell? ⟨gV, 0, none⟩ = some (.int .i64 v) := (blk_cell BV.out 0).trans rfl; have hf2_0 := blk_frozen BV.out 0; have hc3_0 : wf.cell? ⟨gR, 0, none⟩ = some (.int .i64 0) := (blk_cell BR.out 0).trans rfl; have hc3_1 : wf.cell? ⟨gR, 1, none⟩ = some (.slice none 0 0) := (blk_cell BR.out 1).trans rfl; have hf3_0 := blk_frozen BR.out 0; have hf3_1 := blk_frozen BR.out 1;  clear hb))
      have nG := Aside0.mk (blk_far BG.out (p := ⟨gO, 0, none⟩) (blk_ne BG.out BO.out (by decide)) (.func (.func 34) #[] #[.pointer (some ⟨gV, 0, none⟩)]))
      have nV := Aside0.mk (blk_far BV.out (p := ⟨gO, 0, none⟩) (blk_ne BV.out BO.out (by decide)) (.func (.func 34) #[] #[.pointer (some ⟨gV, 0, none⟩)]))
      have nR := Aside0.mk (blk_far BR.out (p := ⟨gO, 0, none⟩) (blk_ne BR.out BO.out (by decide)) (.func (.func 34) #[] #[.pointer (some ⟨gV, 0, none⟩)]))
      have nO := Aside0.mk (blk_put (cs' := #[.func (.func 34) #[] #[.pointer (some ⟨gV, 0, none⟩)]]) BO.out 0 (.func (.func 34) #[] #[.pointer (some ⟨gV, 0, none⟩)]) rfl)
      have nH := Aside0.mk (below_set (j := 0) (v := .func (.func 34) #[] #[.pointer (some ⟨gV, 0, none⟩)]) HB.out GEBO.out)
      clear BG BV BR BO HB
      generalize wf.setCell ⟨gO, 0, none⟩ (.func (.func 34) #[] #[.pointer (some ⟨gV, 0, none⟩)]) = wg at nG nV nR nO nH ⊢
      have nC := Aside0.mk (Kd.C_below HR.out nH.out)
      have hg0 : wg.cell? ⟨gG, 0, none⟩ = some (.int .i64 s) := (blk_cell nG.out 0).trans rfl
      have hr0 : wg.cell? ⟨gR, 0, none⟩ = some (.int .i64 0) := (blk_cell nR.out 0).trans rfl
      have hr1 : wg.cell? ⟨gR, 1, none⟩ = some (.slice none 0 0) := (blk_cell nR.out 1).trans rfl
      go_wp2_with fail
      (refine (impl_graphOf.calls (edgeWithout l v) 36 #[.pointer (some ⟨gG, 0, none⟩), .pointer (some ⟨gO, 0, none⟩)] k (wrap64 (s - 1)) t117 t118 t121 _ (enters_fw Try.func36 (by kernel_rfl) rfl) (fun W x y b hp hw => edge_WithoutVertex s A c l v gG gV gO W (blk_below nG.out hw) (blk_below nV.out hw) (blk_below nO.out hw) (Kd.C_below nC.out hw) x y b hp) A4.out).mono ?_)
      rintro e wh ⟨v119, rfl, ho0, hb⟩
      have HO := Aside0.mk (Kd.R_lower ho0 (below_size nH.out))
      have BR := Aside0.mk (blk_below nR.out hb)
      have HB := Aside0.mk (below_step nH.out hb)
      clear nG nV nR nO nH nC hb ho0 hg0 hr0 hr1
      have hr0 : wh.cell? ⟨gR, 0, none⟩ = some (.int .i64 0) := (blk_cell BR.out 0).trans rfl
      have hr1 : wh.cell? ⟨gR, 1, none⟩ = some (.slice none 0 0) := (blk_cell BR.out 1).trans rfl
      have hfr0 := blk_frozen BR.out 0
      have hfr1 := blk_frozen BR.out 1
      obtain ⟨Ao6, co6, eo6⟩ := Kd.R_slice HO.out
      subst eo6
      go_wp2_with fail
      refine bodyPost_ret (results_ct rfl _ _ gR 26 #[.int .i64 t117, .slice Ao6 t118.length co6] (0, 0) _ rfl (by (with_reducible repeat (first | refine blk_drewN ?_ _ | refine blk_drew ?_ | refine blk_alloc ?_ _)); refine blk_put (cs := #[.int .i64 t117, .slice none 0 0]) ?_ 1 _ rfl; (with_reducible repeat (first | refine blk_drewN ?_ _ | refine blk_drew ?_ | refine blk_alloc ?_ _)); refine blk_put (cs := #[.int .i64 0, .slice none 0 0]) ?_ 0 _ rfl; (with_reducible repeat (first | refine blk_drewN ?_ _ | refine blk_drew ?_ | refine blk_alloc ?_ _)); exact BR.out) Try.underlying26 rfl (by kernel_rfl)) rfl ?_
      exact ⟨_, by first | rfl | (simp [errW_none, errW_some] <;> rfl) | (simp [*, errW_none, errW_some] <;> rfl), by (with_reducible repeat (first | apply Kd.R_alloc | apply Kd.R_drewN | apply Kd.R_drew)); exact Kd.R_mono (Kd.R_far (p := ⟨gR, 1, none⟩) (Kd.R_far (p := ⟨gR, 0, none⟩) (Kd.R_types HO.out BR.out (by decide)) (fun _ hk => hk.2) (.int .i64 t117)) (fun _ hk => hk.2) (.slice Ao6 t118.length co6)) (fun _ hk => trivial), by repeat (first | (with_reducible first | exact HB.out | apply below_alloc | apply pw_below_drewN | apply below_drew1 | refine below_set ?_ GEBR.out) | exact HB.out)⟩

end Go.Proofs.Ytfnlbakeefcmeaa.Q
