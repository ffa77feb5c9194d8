/- Made by a program of this session (wip/tools/mkvertex.py): slices.ContainsFunc at a function value, and impl.Graph.isVertex, for lists of at most 1000 numbers. -/
import Derived.Test.YthfjphkhpfmdcaaGreatDoorMCardFnExactParseGraph0
import Derived.Test.YthfjphkhpfmdcaaGreatDoorQx13N
namespace Go.Proofs.YthfjphkhpfmdcaaGreatDoor.Q
open Go.RowKit Go.Proofs.YthfjphkhpfmdcaaGreatDoorW.PrintWords Go.Proofs.YthfjphkhpfmdcaaGreatDoorW.PrintLast Go.Proofs.YthfjphkhpfmdcaaGreatDoorW.PrintMore
attribute [local go_sem] max2_int min2_int max_two min_two max_three min_three max_four min_four
set_option linter.unusedVariables false
set_option linter.unusedSimpArgs false
section
variable {P : Program} {ops : Array Oper} {Q : Exit → Act → World → Prop} {o : Oper} {rest : List Oper} {a : Act} {W : World}
theorem gate_tmpV {t : Tmp} {ys : Array Operand} {ts : Array TypeId} (_ho : o.op = .call { callee := .value (.tmp t), args := ys, argTypes := ts }) (h : wpList P ops Q (o :: rest) a W) : wpList P ops Q (o :: rest) a W := h
/-- A call of a function value in a plain region: the captured variables' addresses stand behind the arguments. -/
theorem goesV_ {rest : List Oper} {oi : Oper} {a : Act} {w : World} (N : Option Tmp) (hd : oi.dst = N) (hg : oi.guard = none) {c : Operand} {ys : Array Operand} {ts : Array TypeId} (g : FuncId) (caps : Array Value)
    (he : ∀ (xs : Array Value) (W : World), (callFunc g xs).run P W = .ok (.enter g xs) W) (args : Array Value)
    (hop : oi.op = .call { callee := .value c, args := ys, argTypes := ts }) (hc : a.eval c = .func (.func g) #[] caps) (hargs : ys.map a.eval = args)
    (h : Calls P g (args ++ caps) w fun e w' => ∃ v, e = .returned v ∧ wpList P ops Q rest (a.put N v) w') : wpList P ops Q (oi :: rest) a w := by
  refine wpList_plain hg fun K hK => ?_
  have hrun : (execOp a.eval oi).run P w = .ok (.enter g (args ++ caps)) w := by
    unfold execOp
    simp [hop, resolve, Deferred.ofValue, invoke, hc, hargs, he]
  unfold Oper.wp
  rw [hrun, Oper.upon_enter]
  refine h.mono fun e w'' hh => ?_
  obtain ⟨v, rfl, hk⟩ := hh
  subst hd
  exact hK _ _ hk
/-- What 'callFunc' does with a function that has a body. -/
theorem enters_fnV {P : Program} {f : FuncId} {fn : Func} (hf : P.funcs[f]? = some fn) (hname : (fn.name == "runtime.NumGoroutine") = false) (hb : fn.body.isSome = true) : ∀ (xs : Array Value) (W : World), (callFunc f xs).run P W = .ok (.enter f xs) W := fun xs W => enters_ hf hname hb xs W
end
/-! ### slices_IndexFunc_int_int: function 56 -/
def slices_IndexFunc_int_int.l0 (pE : Int → Option Bool) : Nat → List Int → Int → Int → Option (Int)
  | 0, _, _, _ => none
  | k + 1, x0, x7, x8 => if x8 < x7 then (if 0 ≤ x8 then (if x8 < (x0.length : Int) then ((pE (rd x0 x8)).bind fun t102 => (if t102 = true then (some x8) else (slices_IndexFunc_int_int.l0 pE k x0 x7 (wrap64 (x8 + 1))))) else (none)) else (none)) else (some (-1))
def slices_IndexFunc_int_int.f (pE : Int → Option Bool) (k : Nat) (l0 : List Int) : Option (Int) := slices_IndexFunc_int_int.l0 pE k l0 (l0.length : Int) 0
set_option maxHeartbeats 8000000 in
set_option maxRecDepth 100000 in
theorem slices_IndexFunc_int_int.calls (pE : Int → Option Bool) (gE : FuncId) (capE : Array Value) (k : Nat) (A0 : Option Addr) (c0 : Nat) (l0 : List Int) (r : Int) (w : World) (hr0 : Kd.C (Kd.int .i64) w A0 l0.length l0) (hc0 : l0.length ≤ c0) (heE : ∀ (xs : Array Value) (W : World), (callFunc gE xs).run Tryz.prog W = .ok (.enter gE xs) W)
    (hE0 : ∀ (W : World) (x : Int) (b : Bool), pE x = some b → Below w.heap.size w W → Calls Tryz.prog gE (#[.int .i64 x] ++ capE) W fun e w' => e = .returned (.bool b) ∧ Drawn0 W w')
    (h : slices_IndexFunc_int_int.f pE k l0 = some r) :
    Calls Tryz.prog 56 #[.slice A0 l0.length c0, .func (.func gE) #[] capE] w fun e w' => e = .returned (.int .i64 r) ∧ Drawn0 w w' := by
  have HR0 := Aside0.mk hr0
  have HC0 := Aside0.mk hc0
  clear hr0 hc0
  have HE := Aside0.mk hE0
  have HEN := Aside0.mk heE
  clear hE0 heE
  have H : (slices_IndexFunc_int_int.l0 pE k l0 (l0.length : Int) 0) = some r := h
  clear h
  have H' := Aside0.mk H
  clear H
  go_enter Tryz.func56, Tryz.ntmps56
  go_wp2
  go_loopg [8] k (fun kq v8 w' => ∃ (x8_1 : Int), v8 = .int .i64 x8_1 ∧ Aside0 (slices_IndexFunc_int_int.l0 pE kq l0 (l0.length : Int) x8_1 = some r) ∧ Aside0 (kq ≤ k) ∧ Drawn0 w w')
  case atStart => exact ⟨(0), (by first | rfl | (simp; done) | (simp [*]; done)), H', ⟨Nat.le_refl _⟩, by repeat (first | exact Drawn0.refl _ | apply Drawn0.step)⟩
  case round =>
    clear H'
    try clear p2
    obtain ⟨x8_1, rfl, HA, HK1, ⟨m1, rfl⟩⟩ := hrel
    cases gk with
    | zero => exact absurd HA.out (by simp [slices_IndexFunc_int_int.l0])
    | succ k1 =>
      have H := HA.out
      clear HA
      simp only [slices_IndexFunc_int_int.l0] at H
      by_cases c3 : x8_1 < (l0.length : Int)
      · rw [if_pos c3] at H
        have c3b0 : decide (x8_1 < (l0.length : Int)) = true := decide_eq_true c3
        clear c3
        by_cases c4 : 0 ≤ x8_1
        · rw [if_pos c4] at H
          have c4b0 : decide (0 ≤ x8_1) = true := decide_eq_true c4
          clear c4
          by_cases c5 : x8_1 < (l0.length : Int)
          · rw [if_pos c5] at H
            have c5b0 : decide (x8_1 < (l0.length : Int)) = true := decide_eq_true c5
            clear c5
            replace H := Option.bind_eq_some_iff.mp H
            obtain ⟨t102, A60, H⟩ := H
            replace H : (if t102 = true then (some x8_1) else (slices_IndexFunc_int_int.l0 pE k1 l0 (l0.length : Int) (wrap64 (x8_1 + 1)))) = some r := H
            have A6 := Aside0.mk A60
            clear A60
            by_cases c7 : t102 = true
            · subst c7
              have H1 : (some x8_1) = some r := by rw [if_pos rfl] at H; exact H
              clear H
              have H := H1
              clear H1
              obtain rfl := Option.some.inj H
              have p101 : 0 ≤ (x8_1 : Int) := of_decide_eq_true (by first | (with_reducible assumption) | assumption)
              have q101 : x8_1 < (l0.length : Int) := of_decide_eq_true (by first | (with_reducible assumption) | assumption)
              obtain ⟨ad101, e101, hx101_0⟩ := Kd.at_int HR0.out x8_1 p101 q101
              cases e101
              replace p101 := eq_true p101
              replace q101 := eq_true q101
              go_wp2_with (first | ((with_reducible refine gate_tmpV (t := 11) rfl ?_); refine goesV_ (some 16) rfl rfl gE capE HEN.out #[.int .i64 (rd l0 x8_1)] rfl rfl (by (try simp only [List.map_toArray, List.map_cons, List.map_nil]); first | done | rfl) ?_; (with_reducible refine (HE.out _ (rd l0 x8_1) true A6.out (Drawn0.below (by repeat (first | exact Drawn0.refl _ | apply Drawn0.step)))).mono ?_); rintro e w' ⟨rfl, ⟨nd, rfl⟩⟩; refine ⟨_, rfl, ?_⟩))
              go_ret
              exact ⟨by first | rfl | (simp; done) | (simp [*]; done), by repeat (first | exact Drawn0.refl _ | apply Drawn0.step)⟩
            · replace c7 := Bool.eq_false_iff.mpr c7
              subst c7
              have H1 : (slices_IndexFunc_int_int.l0 pE k1 l0 (l0.length : Int) (wrap64 (x8_1 + 1))) = some r := by rw [if_neg (show ¬ (false = true) by decide)] at H; exact H
              clear H
              have H := H1
              clear H1
              have H' := Aside0.mk H
              clear H
              have p101 : 0 ≤ (x8_1 : Int) := of_decide_eq_true (by first | (with_reducible assumption) | assumption)
              have q101 : x8_1 < (l0.length : Int) := of_decide_eq_true (by first | (with_reducible assumption) | assumption)
              obtain ⟨ad101, e101, hx101_0⟩ := Kd.at_int HR0.out x8_1 p101 q101
              cases e101
              replace p101 := eq_true p101
              replace q101 := eq_true q101
              go_wp2_with (first | ((with_reducible refine gate_tmpV (t := 11) rfl ?_); refine goesV_ (some 16) rfl rfl gE capE HEN.out #[.int .i64 (rd l0 x8_1)] rfl rfl (by (try simp only [List.map_toArray, List.map_cons, List.map_nil]); first | done | rfl) ?_; (with_reducible refine (HE.out _ (rd l0 x8_1) false A6.out (Drawn0.below (by repeat (first | exact Drawn0.refl _ | apply Drawn0.step)))).mono ?_); rintro e w' ⟨rfl, ⟨nd, rfl⟩⟩; refine ⟨_, rfl, ?_⟩))
              go_roundg k1
              case measure => have := HK1.out; omega
              case rel => exact ⟨(wrap64 (x8_1 + 1)), (by first | rfl | (simp; done) | (simp [*]; done)), H', ⟨by have := HK1.out; omega⟩, by repeat (first | exact Drawn0.refl _ | apply Drawn0.step)⟩
          · rw [if_neg c5] at H
            exact absurd H (by simp)
        · rw [if_neg c4] at H
          exact absurd H (by simp)
      · rw [if_neg c3] at H
        have c3b0 : decide (x8_1 < (l0.length : Int)) = false := decide_eq_false c3
        clear c3
        obtain rfl := Option.some.inj H
        go_wp2
        go_ret
        exact ⟨by first | rfl | (simp; done) | (simp [*]; done), by repeat (first | exact Drawn0.refl _ | apply Drawn0.step)⟩

/-! ### slices_ContainsFunc_int_int: function 35 -/
def slices_ContainsFunc_int_int.f (pE : Int → Option Bool) (k : Nat) (l0 : List Int) : Option (Bool) := (slices_IndexFunc_int_int.f pE k l0).bind fun t103 => (some (decide (t103 ≥ 0)))
set_option maxHeartbeats 8000000 in
set_option maxRecDepth 100000 in
theorem slices_ContainsFunc_int_int.calls (pE : Int → Option Bool) (gE : FuncId) (capE : Array Value) (k : Nat) (A0 : Option Addr) (c0 : Nat) (l0 : List Int) (r : Bool) (w : World) (hr0 : Kd.C (Kd.int .i64) w A0 l0.length l0) (hc0 : l0.length ≤ c0) (heE : ∀ (xs : Array Value) (W : World), (callFunc gE xs).run Tryz.prog W = .ok (.enter gE xs) W)
    (hE0 : ∀ (W : World) (x : Int) (b : Bool), pE x = some b → Below w.heap.size w W → Calls Tryz.prog gE (#[.int .i64 x] ++ capE) W fun e w' => e = .returned (.bool b) ∧ Drawn0 W w')
    (h : slices_ContainsFunc_int_int.f pE k l0 = some r) :
    Calls Tryz.prog 35 #[.slice A0 l0.length c0, .func (.func gE) #[] capE] w fun e w' => e = .returned (.bool r) ∧ Drawn0 w w' := by
  have HR0 := Aside0.mk hr0
  have HC0 := Aside0.mk hc0
  clear hr0 hc0
  have H : ((slices_IndexFunc_int_int.f pE k l0).bind fun t103 => (some (decide (t103 ≥ 0)))) = some r := h
  clear h
  replace H := Option.bind_eq_some_iff.mp H
  obtain ⟨t103, A30, H⟩ := H
  replace H : (some (decide (t103 ≥ 0))) = some r := H
  have A3 := Aside0.mk A30
  clear A30
  obtain rfl := Option.some.inj H
  go_enter Tryz.func35, Tryz.ntmps35
  go_wp2_with (first | ((with_reducible refine gate_callee (f := 56) rfl ?_); refine goesL_ (some 7) rfl rfl Tryz.func56 (by kernel_rfl) rfl #[.slice A0 l0.length c0, .func (.func gE) #[] capE] rfl (by (try simp only [List.map_toArray, List.map_cons, List.map_nil]); first | done | rfl | (simp only [List.length_drop, List.length_take]; rfl)) ?_; (with_reducible refine (slices_IndexFunc_int_int.calls pE gE capE k _ _ l0 t103 _ ?side1 ?side2 heE hE0 A3.out).mono ?_); (case side1 => repeat (first | exact HR0.out | (with_reducible refine Kd.C_alloc ?_ _) | (with_reducible refine Kd.C_drewN ?_ _) | (with_reducible refine Kd.C_drew ?_))); (case side2 => exact HC0.out); rintro e w' ⟨rfl, ⟨nd, rfl⟩⟩; refine ⟨_, rfl, ?_⟩))
  go_ret
  exact ⟨by first | rfl | (simp; done) | (simp [*]; done), by repeat (first | exact Drawn0.refl _ | apply Drawn0.step)⟩


/-! ### impl_Graph_isVertex -/
def vertexIs (s x : Int) : Bool := decide (0 ≤ x) && decide (x ≤ wrap64 (s - 1))
def vertexOut (s x : Int) : Option Bool := (impl_in.f x 0 (wrap64 (s - 1))).bind fun b => some (!b)
theorem vertexOut_is (s x : Int) : vertexOut s x = some (!vertexIs s x) := by
  unfold vertexOut impl_in.f vertexIs
  by_cases h : 0 ≤ x
  · rw [if_pos h, decide_eq_true h]; rfl
  · rw [if_neg h, decide_eq_false h]; rfl
def impl_Graph_isVertex.f (a0_0 : Int) (_ : List Int) (l1 : List Int) : Option Bool := if l1.length ≤ 1000 then some (l1.all (vertexIs a0_0)) else none
theorem vertex_index (s : Int) (l : List Int) (hl : l.length ≤ 1000) : ∀ (d i : Nat), i + d = l.length → ∃ r : Int, Ev (fun k => slices_IndexFunc_int_int.l0 (vertexOut s) k l (l.length : Int) (i : Int)) r ∧ decide (r ≥ 0) = !((l.drop i).all (vertexIs s))
  | 0, i, hd => by
    refine ⟨-1, Ev.step (f := fun _ => some (-1)) (fun k => ?_) (Ev.now _), ?_⟩
    · simp only [slices_IndexFunc_int_int.l0]
      rw [if_neg (by omega)]
    · rw [List.drop_of_length_le (by omega)]; rfl
  | d + 1, i, hd => by
    have hi : i < l.length := by omega
    have hx : rd l (i : Int) = l[i] := by
      unfold rd
      rw [Int.toNat_natCast, List.getD_eq_getElem?_getD, List.getElem?_eq_getElem hi]
      rfl
    have hw : wrap64 ((i : Int) + 1) = ((i + 1 : Nat) : Int) := by unfold wrap64; omega
    rw [List.drop_eq_getElem_cons hi, List.all_cons]
    cases hv : vertexIs s l[i] with
    | false =>
      refine ⟨(i : Int), Ev.step (f := fun _ => some (i : Int)) (fun k => ?_) (Ev.now _), ?_⟩
      · simp only [slices_IndexFunc_int_int.l0]
        rw [if_pos (by omega), if_pos (by omega), if_pos (by omega), hx, vertexOut_is, hv]
        rfl
      · simp
    | true =>
      obtain ⟨r, h1, h2⟩ := vertex_index s l hl d (i + 1) (by omega)
      refine ⟨r, Ev.step (fun k => ?_) h1, by rw [h2, Bool.true_and]⟩
      simp only [slices_IndexFunc_int_int.l0]
      rw [if_pos (by omega), if_pos (by omega), if_pos (by omega), hx, vertexOut_is, hv, hw]
      rfl
theorem vertex_pure (s : Int) (l0 l1 : List Int) (r : Bool) (h : impl_Graph_isVertex.f s l0 l1 = some r) : ∃ (k : Nat) (q : Bool), slices_ContainsFunc_int_int.f (vertexOut s) k l1 = some q ∧ r = !q := by
  unfold impl_Graph_isVertex.f at h
  by_cases hl : l1.length ≤ 1000
  · rw [if_pos hl] at h
    obtain rfl := Option.some.inj h
    obtain ⟨x, ⟨K, h1⟩, h2⟩ := vertex_index s l1 hl l1.length 0 (by omega)
    refine ⟨K, decide (x ≥ 0), ?_, ?_⟩
    · unfold slices_ContainsFunc_int_int.f slices_IndexFunc_int_int.f
      have h3 : slices_IndexFunc_int_int.l0 (vertexOut s) K l1 (l1.length : Int) 0 = some x := h1 K (Nat.le_refl _)
      rw [h3]
      rfl
    · rw [h2, List.drop_zero, Bool.not_not]
  · rw [if_neg hl] at h
    cases h
set_option maxHeartbeats 8000000 in
set_option maxRecDepth 100000 in
theorem vertex_closure (s : Int) (A0 : Option Addr) (n0 c0 : Nat) (B : Nat) (W : World) (hB : W.heap[B]? = some (.cells #[.int .i64 s, .slice A0 n0 c0] 24 (0, 0))) (x : Int) (b : Bool) (h : vertexOut s x = some b) :
    Calls Tryz.prog 36 (#[.int .i64 x] ++ #[.pointer (some ⟨B, 0, none⟩)]) W fun e w' => e = .returned (.bool b) ∧ Drawn0 W w' := by
  have hu27 := Tryz.underlying24
  have hc : W.cell? ⟨B, 0, none⟩ = some (.int .i64 s) := (blk_cell hB 0).trans rfl
  have hc1 : W.cell? ⟨B, 1, none⟩ = some (.slice A0 n0 c0) := (blk_cell hB 1).trans rfl
  unfold vertexOut at h
  replace h := Option.bind_eq_some_iff.mp h
  obtain ⟨t, A0_, h⟩ := h
  have A1_ := Aside0.mk A0_
  clear A0_ hB
  obtain rfl := Option.some.inj h
  clear h
  show Calls Tryz.prog 36 #[.int .i64 x, .pointer (some ⟨B, 0, none⟩)] W _
  go_enter Tryz.func36, Tryz.ntmps36
  go_wp2_with (first | ((with_reducible refine gate_callee (f := 37) rfl ?_); refine goesL_ (some 8) rfl rfl Tryz.func37 (by kernel_rfl) rfl #[.int .i64 x, .int .i64 0, .int .i64 (wrap64 (s - 1))] rfl (by (try simp only [List.map_toArray, List.map_cons, List.map_nil]); first | done | rfl | (simp only [List.length_drop, List.length_take]; rfl)) ?_; (with_reducible refine (impl_in.calls x 0 (wrap64 (s - 1)) t _ A1_.out).mono ?_); rintro e w' ⟨rfl, ⟨nd, rfl⟩⟩; refine ⟨_, rfl, ?_⟩))
  go_ret
  exact ⟨by first | rfl | (simp; done) | (simp [*]; done), by repeat (first | exact Drawn0.refl _ | apply Drawn0.step)⟩
set_option maxHeartbeats 8000000 in
set_option maxRecDepth 100000 in
theorem impl_Graph_isVertex.calls (a0_0 : Int) (A0_1 : Option Addr) (c0_1 : Nat) (l0_1 : List Int) (A1 : Option Addr) (c1 : Nat) (l1 : List Int) (r : Bool) (w : World) (hr0_1 : Kd.C (Kd.int .i64) w A0_1 l0_1.length l0_1) (hc0_1 : l0_1.length ≤ c0_1) (hr1 : Kd.C (Kd.int .i64) w A1 l1.length l1) (hc1 : l1.length ≤ c1) (h : impl_Graph_isVertex.f a0_0 l0_1 l1 = some r) :
    Calls Tryz.prog 18 #[.agg #[.int .i64 a0_0, .slice A0_1 l0_1.length c0_1], .slice A1 l1.length c1] w fun e w' => e = .returned (.bool r) ∧ Below w.heap.size w w' := by
  have hu27 := Tryz.underlying24
  obtain ⟨k, q, A20, rfl⟩ := vertex_pure a0_0 l0_1 l1 r h
  clear h hr0_1 hc0_1
  have HR1 := Aside0.mk hr1
  have HC1 := Aside0.mk hc1
  clear hr1 hc1
  have HB := Aside0.mk (Below.refl w.heap.size w)
  have A2 := Aside0.mk A20
  clear A20
  go_enter Tryz.func18, Tryz.ntmps18
  go_wp2_with (first | ((with_reducible refine gate_dst (N := 2) rfl ?_); refine box_event ?hg (N := 2) ?hd (cs := #[.int .i64 a0_0, .slice A0_1 l0_1.length c0_1]) (t := 24) ?hr ?_; (case hd => rfl); (case hg => rfl); (case hr => first | (go_simp; done) | (go_simp; rfl)); intro gbc hg w3 hbox hb; have n0_ := Aside0.mk (below_step (by repeat (first | (with_reducible first | exact HB.out | apply below_alloc | apply pw_below_drewN | apply below_drew1) | exact HB.out)) hb); have n1_ := Aside0.mk (hbox); clear HB; have HB := n0_; have BKc := n1_; clear n0_ n1_; clear hb hbox hg) | ((with_reducible refine gate_callee (f := 35) rfl ?_); refine goesL_ (some 7) rfl rfl Tryz.func35 (by kernel_rfl) rfl #[.slice A1 l1.length c1, .func (.func 36) #[] #[.pointer (some ⟨gbc, 0, none⟩)]] rfl (by (try simp only [List.map_toArray, List.map_cons, List.map_nil]); first | done | rfl) ?_; (with_reducible refine (slices_ContainsFunc_int_int.calls (vertexOut a0_0) 36 #[.pointer (some ⟨gbc, 0, none⟩)] k _ _ l1 q _ ?side1 ?side2 (enters_fnV Tryz.func36 (by kernel_rfl) rfl) (fun W x b hp hw => vertex_closure a0_0 A0_1 l0_1.length c0_1 gbc W (blk_below (by (with_reducible repeat (first | refine blk_drewN ?_ _ | refine blk_drew ?_ | refine blk_alloc ?_ _)); exact BKc.out) hw) x b hp) A2.out).mono ?_); (case side1 => repeat (first | exact (Kd.C_below HR1.out HB.out) | (with_reducible refine Kd.C_alloc ?_ _) | (with_reducible refine Kd.C_drewN ?_ _) | (with_reducible refine Kd.C_drew ?_))); (case side2 => exact HC1.out); rintro e w' ⟨rfl, ⟨nd, rfl⟩⟩; refine ⟨_, rfl, ?_⟩))
  go_ret
  exact ⟨by first | rfl | (simp; done) | (simp [*]; done), by repeat (first | (with_reducible first | exact HB.out | apply below_alloc | apply pw_below_drewN | apply below_drew1) | exact HB.out)⟩

end Go.Proofs.YthfjphkhpfmdcaaGreatDoor.Q
