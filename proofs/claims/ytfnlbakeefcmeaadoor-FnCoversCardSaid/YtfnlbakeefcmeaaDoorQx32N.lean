-- Made by a program of this session (wip/tools), out of Lean's own print of the translation.
import Derived.Test.YtfnlbakeefcmeaaDoorMCardFnCovers0
import Derived.Test.YtfnlbakeefcmeaaDoorMCardFnCovers1
import Derived.Test.YtfnlbakeefcmeaaDoorQx18N
import Derived.Test.YtfnlbakeefcmeaaDoorMCardFnCovers2
import Derived.Test.YtfnlbakeefcmeaaDoorQx29N
import Derived.Test.YtfnlbakeefcmeaaDoorQx30N
import Derived.Test.YtfnlbakeefcmeaaDoorQx31N
namespace Go.Proofs.YtfnlbakeefcmeaaDoor.Q
open Go.RowKit Go.Proofs.YtfnlbakeefcmeaaDoorW.PrintWords Go.Proofs.YtfnlbakeefcmeaaDoorW.PrintLast Go.Proofs.YtfnlbakeefcmeaaDoorW.PrintMore
attribute [local go_sem] max2_int min2_int max_two min_two max_three min_three max_four min_four   -- for this text's walks alone
set_option linter.unusedVariables false
set_option linter.unusedSimpArgs false

/-! ### laws_FnCovers: function 4 -/
mutual
def laws_FnCovers.j0 : Nat → List Int → Int → Int → Bool → Int → List Int → Option (Bool)
  | 0, _, _, _, _, _, _ => none
  | k + 1, x0, x4, x5, x53, x412000, x412001 => if x53 = true then (some false) else ((spec_MakeNum.f k x0 30).bind fun t421 => (if 0 ≤ x412000 then (if (shl .i64 1 x412000) = 0 then (none) else ((impl_IsIndependent.f k x412000 x412001 (Int.tmod t421 (shl .i64 1 x412000))).bind fun t422 => (if t422 = true then ((impl_CountSet.f (Int.tmod t421 (shl .i64 1 x412000))).bind fun t423 => ((impl_CountSet.f x4).bind fun t424 => (if t423 > t424 then (laws_FnCovers.j1 k (Int.tmod t421 (shl .i64 1 x412000)) true x412000 x412001) else ((impl_IsDominating.f k x412000 x412001 (Int.tmod t421 (shl .i64 1 x412000))).bind fun t425 => (if t425 = true then ((impl_CountSet.f (Int.tmod t421 (shl .i64 1 x412000))).bind fun t426 => ((impl_CountSet.f x5).bind fun t427 => (laws_FnCovers.j1 k (Int.tmod t421 (shl .i64 1 x412000)) (decide (t426 < t427)) x412000 x412001))) else (laws_FnCovers.j1 k (Int.tmod t421 (shl .i64 1 x412000)) false x412000 x412001)))))) else ((impl_IsDominating.f k x412000 x412001 (Int.tmod t421 (shl .i64 1 x412000))).bind fun t428 => (if t428 = true then ((impl_CountSet.f (Int.tmod t421 (shl .i64 1 x412000))).bind fun t429 => ((impl_CountSet.f x5).bind fun t430 => (laws_FnCovers.j1 k (Int.tmod t421 (shl .i64 1 x412000)) (decide (t429 < t430)) x412000 x412001))) else (laws_FnCovers.j1 k (Int.tmod t421 (shl .i64 1 x412000)) false x412000 x412001)))))) else (none)))
def laws_FnCovers.j1 : Nat → Int → Bool → Int → List Int → Option (Bool)
  | 0, _, _, _, _ => none
  | k + 1, x7, x81, x412000, x412001 => if x81 = true then (some false) else ((impl_IsClique.f k x412000 x412001 x7).bind fun t431 => (if t431 = true then ((impl_IsIndependent.f k x412000 x412001 x7).bind fun t432 => (if t432 = true then ((impl_CountSet.f x7).bind fun t433 => (some (decide (t433 ≤ 1)))) else (some true))) else (some true)))
end
def laws_FnCovers.f (k : Nat) (l0 : List Int) : Option (Bool) := if (l0.length : Int) > 1048576 then (some true) else ((spec_MakeGraph.f k l0 0 8).bind fun bt407 => ((impl_MostIndependent.f k bt407.1 bt407.2).bind fun t412 => ((impl_FewestDominating.f k bt407.1 bt407.2).bind fun t413 => ((impl_CliqueCover.f k bt407.1 bt407.2).bind fun t414 => ((impl_IsIndependent.f k bt407.1 bt407.2 t412).bind fun t415 => (if t415 = true then ((impl_IsDominating.f k bt407.1 bt407.2 t412).bind fun t416 => (if t416 = true then ((impl_IsDominating.f k bt407.1 bt407.2 t413).bind fun t417 => (if t417 = true then ((impl_CountSet.f t413).bind fun t418 => ((impl_CountSet.f t412).bind fun t419 => (if t418 > t419 then (laws_FnCovers.j0 k l0 t412 t413 true bt407.1 bt407.2) else ((impl_CountSet.f t412).bind fun t420 => (if t420 > t414 then (laws_FnCovers.j0 k l0 t412 t413 true bt407.1 bt407.2) else (laws_FnCovers.j0 k l0 t412 t413 (decide (t414 > bt407.1)) bt407.1 bt407.2)))))) else (laws_FnCovers.j0 k l0 t412 t413 true bt407.1 bt407.2))) else (laws_FnCovers.j0 k l0 t412 t413 true bt407.1 bt407.2))) else (laws_FnCovers.j0 k l0 t412 t413 true bt407.1 bt407.2)))))))
set_option maxHeartbeats 8000000 in
set_option maxRecDepth 100000 in
theorem laws_FnCovers.calls (k : Nat) (A0 : Option Addr) (c0 : Nat) (l0 : List Int) (r : Bool) (w : World) (hr0 : Kd.C (Kd.int .u8) w A0 l0.length l0) (hc0 : l0.length ≤ c0) (hT_ : TabZ w) (h : laws_FnCovers.f k l0 = some r) :
    Calls Tryd.prog 4 #[.slice A0 l0.length c0] w fun e w' => e = .returned (.bool r) ∧ Below w.heap.size w w' := by
  have HT9_ := Aside0.mk hT_
  clear hT_
  have hu27 := Tryd.underlying27
  have HR0 := Aside0.mk hr0
  have HC0 := Aside0.mk hc0
  clear hr0 hc0
  have HB := Aside0.mk (Below.refl w.heap.size w)
  have H : (if (l0.length : Int) > 1048576 then (some true) else ((spec_MakeGraph.f k l0 0 8).bind fun bt407 => ((impl_MostIndependent.f k bt407.1 bt407.2).bind fun t412 => ((impl_FewestDominating.f k bt407.1 bt407.2).bind fun t413 => ((impl_CliqueCover.f k bt407.1 bt407.2).bind fun t414 => ((impl_IsIndependent.f k bt407.1 bt407.2 t412).bind fun t415 => (if t415 = true then ((impl_IsDominating.f k bt407.1 bt407.2 t412).bind fun t416 => (if t416 = true then ((impl_IsDominating.f k bt407.1 bt407.2 t413).bind fun t417 => (if t417 = true then ((impl_CountSet.f t413).bind fun t418 => ((impl_CountSet.f t412).bind fun t419 => (if t418 > t419 then (laws_FnCovers.j0 k l0 t412 t413 true bt407.1 bt407.2) else ((impl_CountSet.f t412).bind fun t420 => (if t420 > t414 then (laws_FnCovers.j0 k l0 t412 t413 true bt407.1 bt407.2) else (laws_FnCovers.j0 k l0 t412 t413 (decide (t414 > bt407.1)) bt407.1 bt407.2)))))) else (laws_FnCovers.j0 k l0 t412 t413 true bt407.1 bt407.2))) else (laws_FnCovers.j0 k l0 t412 t413 true bt407.1 bt407.2))) else (laws_FnCovers.j0 k l0 t412 t413 true bt407.1 bt407.2)))))))) = some r := h
  clear h
  by_cases c2 : (l0.length : Int) > 1048576
  · rw [if_pos c2] at H
    have c2b0 : decide (1048576 < (l0.length : Int)) = true := decide_eq_true c2
    have c2b1 : decide (1048576 < l0.length) = true := decide_eq_true (by omega)
    clear c2
    obtain rfl := Option.some.inj H
    go_enter Tryd.func4, Tryd.ntmps4
    go_wp2
    go_ret
    exact ⟨by first | rfl | (simp [errW_none, errW_some] <;> rfl) | (simp [*, errW_none, errW_some] <;> rfl), by repeat (first | (with_reducible first | exact HB.out | apply below_alloc | apply pw_below_drewN | apply below_drew1) | exact HB.out)⟩
  · rw [if_neg c2] at H
    have c2b0 : decide (1048576 < (l0.length : Int)) = false := decide_eq_false c2
    have c2b1 : decide (1048576 < l0.length) = false := decide_eq_false (by omega)
    clear c2
    replace H := Option.bind_eq_some_iff.mp H
    obtain ⟨⟨t407, t408⟩, A30, H⟩ := H
    replace H : ((impl_MostIndependent.f k t407 t408).bind fun t412 => ((impl_FewestDominating.f k t407 t408).bind fun t413 => ((impl_CliqueCover.f k t407 t408).bind fun t414 => ((impl_IsIndependent.f k t407 t408 t412).bind fun t415 => (if t415 = true then ((impl_IsDominating.f k t407 t408 t412).bind fun t416 => (if t416 = true then ((impl_IsDominating.f k t407 t408 t413).bind fun t417 => (if t417 = true then ((impl_CountSet.f t413).bind fun t418 => ((impl_CountSet.f t412).bind fun t419 => (if t418 > t419 then (laws_FnCovers.j0 k l0 t412 t413 true t407 t408) else ((impl_CountSet.f t412).bind fun t420 => (if t420 > t414 then (laws_FnCovers.j0 k l0 t412 t413 true t407 t408) else (laws_FnCovers.j0 k l0 t412 t413 (decide (t414 > t407)) t407 t408)))))) else (laws_FnCovers.j0 k l0 t412 t413 true t407 t408))) else (laws_FnCovers.j0 k l0 t412 t413 true t407 t408))) else (laws_FnCovers.j0 k l0 t412 t413 true t407 t408)))))) = some r := H
    have A3 := Aside0.mk A30
    clear A30
    replace H := Option.bind_eq_some_iff.mp H
    obtain ⟨t412, A40, H⟩ := H
    replace H : ((impl_FewestDominating.f k t407 t408).bind fun t413 => ((impl_CliqueCover.f k t407 t408).bind fun t414 => ((impl_IsIndependent.f k t407 t408 t412).bind fun t415 => (if t415 = true then ((impl_IsDominating.f k t407 t408 t412).bind fun t416 => (if t416 = true then ((impl_IsDominating.f k t407 t408 t413).bind fun t417 => (if t417 = true then ((impl_CountSet.f t413).bind fun t418 => ((impl_CountSet.f t412).bind fun t419 => (if t418 > t419 then (laws_FnCovers.j0 k l0 t412 t413 true t407 t408) else ((impl_CountSet.f t412).bind fun t420 => (if t420 > t414 then (laws_FnCovers.j0 k l0 t412 t413 true t407 t408) else (laws_FnCovers.j0 k l0 t412 t413 (decide (t414 > t407)) t407 t408)))))) else (laws_FnCovers.j0 k l0 t412 t413 true t407 t408))) else (laws_FnCovers.j0 k l0 t412 t413 true t407 t408))) else (laws_FnCovers.j0 k l0 t412 t413 true t407 t408))))) = some r := H
    have A4 := Aside0.mk A40
    clear A40
    replace H := Option.bind_eq_some_iff.mp H
    obtain ⟨t413, A50, H⟩ := H
    replace H : ((impl_CliqueCover.f k t407 t408).bind fun t414 => ((impl_IsIndependent.f k t407 t408 t412).bind fun t415 => (if t415 = true then ((impl_IsDominating.f k t407 t408 t412).bind fun t416 => (if t416 = true then ((impl_IsDominating.f k t407 t408 t413).bind fun t417 => (if t417 = true then ((impl_CountSet.f t413).bind fun t418 => ((impl_CountSet.f t412).bind fun t419 => (if t418 > t419 then (laws_FnCovers.j0 k l0 t412 t413 true t407 t408) else ((impl_CountSet.f t412).bind fun t420 => (if t420 > t414 then (laws_FnCovers.j0 k l0 t412 t413 true t407 t408) else (laws_FnCovers.j0 k l0 t412 t413 (decide (t414 > t407)) t407 t408)))))) else (laws_FnCovers.j0 k l0 t412 t413 true t407 t408))) else (laws_FnCovers.j0 k l0 t412 t413 true t407 t408))) else (laws_FnCovers.j0 k l0 t412 t413 true t407 t408)))) = some r := H
    have A5 := Aside0.mk A50
    clear A50
    replace H := Option.bind_eq_some_iff.mp H
    obtain ⟨t414, A60, H⟩ := H
    replace H : ((impl_IsIndependent.f k t407 t408 t412).bind fun t415 => (if t415 = true then ((impl_IsDominating.f k t407 t408 t412).bind fun t416 => (if t416 = true then ((impl_IsDominating.f k t407 t408 t413).bind fun t417 => (if t417 = true then ((impl_CountSet.f t413).bind fun t418 => ((impl_CountSet.f t412).bind fun t419 => (if t418 > t419 then (laws_FnCovers.j0 k l0 t412 t413 true t407 t408) else ((impl_CountSet.f t412).bind fun t420 => (if t420 > t414 then (laws_FnCovers.j0 k l0 t412 t413 true t407 t408) else (laws_FnCovers.j0 k l0 t412 t413 (decide (t414 > t407)) t407 t408)))))) else (laws_FnCovers.j0 k l0 t412 t413 true t407 t408))) else (laws_FnCovers.j0 k l0 t412 t413 true t407 t408))) else (laws_FnCovers.j0 k l0 t412 t413 true t407 t408))) = some r := H
    have A6 := Aside0.mk A60
    clear A60
    have HC7 := Aside0.mk H
    clear H
    go_enter Tryd.func4, Tryd.ntmps4
    go_upto_region 7 with (first | ((with_reducible refine gate_callee (f := 19) rfl ?_); refine goesL_ (some 12) rfl rfl Tryd.func19 (by kernel_rfl) rfl #[.slice A0 l0.length c0, .int .i64 0, .int .i64 8] rfl (by (try simp only [List.map_toArray, List.map_cons, List.map_nil]); first | done | rfl | (simp only [List.length_drop, List.length_take]; rfl)) ?_; (with_reducible refine (spec_MakeGraph.calls k _ _ l0 0 8 t407 t408 _ ?side1 ?side2 A3.out).mono ?_); (case side1 => repeat (first | exact HR0.out | (with_reducible refine Kd.C_alloc ?_ _) | (with_reducible refine Kd.C_drewN ?_ _) | (with_reducible refine Kd.C_drew ?_))); (case side2 => exact HC0.out); rintro e w8 ⟨v409, rfl, ho0, hb⟩; refine ⟨_, rfl, ?_⟩; have n0_ := Aside0.mk (Kd.R_lower ho0 (below_size (by repeat (first | (with_reducible first | exact HB.out | apply below_alloc | apply pw_below_drewN | apply below_drew1) | exact HB.out)))); have n1_ := Aside0.mk (below_step (by repeat (first | (with_reducible first | exact HB.out | apply below_alloc | apply pw_below_drewN | apply below_drew1) | exact HB.out)) hb); clear HB; have HO410 := n0_; have HB := n1_; clear n0_ n1_; (try clear hb); (try clear hb2); (try clear hk); (try clear hi); (try clear ho0)) | ((with_reducible refine gate_dst (N := 3) rfl ?_); refine box_event ?hg (N := 3) ?hd (cs := #[.int .i64 0, .slice none 0 0]) (t := 27) ?hr ?_; (case hd => rfl); (case hg => rfl); (case hr => first | (go_simp; done) | (go_simp; rfl)); intro gb411 hg w9 hbox hb; have n0_ := Aside0.mk (Kd.R_below (by (with_reducible repeat (first | apply Kd.R_alloc | apply Kd.R_drewN | apply Kd.R_drew)); exact HO410.out) hb); have n1_ := Aside0.mk (below_step (by repeat (first | (with_reducible first | exact HB.out | apply below_alloc | apply pw_below_drewN | apply below_drew1) | exact HB.out)) hb); have n2_ := Aside0.mk (hbox); have n3_ := Aside0.mk ((by rw [hg]; exact (below_size (by repeat (first | (with_reducible first | exact HB.out | apply below_alloc | apply pw_below_drewN | apply below_drew1) | exact HB.out))) : w.heap.size ≤ gb411)); have n4_ := Aside0.mk ((by rw [hg]; exact (below_size (by repeat (first | (with_reducible first | exact HB.out | apply below_alloc | apply pw_below_drewN | apply below_drew1) | exact HB.out))) : w.heap.size ≤ gb411)); clear HO410; clear HB; have HO410 := n0_; have HB := n1_; have BK411 := n2_; have GW411 := n3_; have GE411 := n4_; clear n0_ n1_ n2_ n3_ n4_; clear hb hbox hg; have hcz10_0 : w9.cell? ⟨gb411, 0, none⟩ = some (.int .i64 0) := (blk_cell BK411.out 0).trans rfl; have hcz10_1 : w9.cell? ⟨gb411, 1, none⟩ = some (.slice none 0 0) := (blk_cell BK411.out 1).trans rfl; have hfz10_0 := blk_frozen BK411.out 0; have hfz10_1 := blk_frozen BK411.out 1; obtain ⟨Ao11, co11, eo11⟩ := Kd.R_slice HO410.out; subst eo11) | ((with_reducible refine gate_callee (f := 20) rfl ?_); refine goesL_ (some 14) rfl rfl Tryd.func20 (by kernel_rfl) rfl #[.agg #[.int .i64 t407, .slice Ao11 t408.length co11]] rfl (by (try simp only [List.map_toArray, List.map_cons, List.map_nil]); first | done | rfl | (simp only [List.length_drop, List.length_take]; rfl)) ?_; (with_reducible refine (impl_MostIndependent.calls k t407 _ _ t408 t412 _ ?side1 ?side2 A4.out).mono ?_); (case side1 => refine (Kd.R_reads' (e := 3) (base := w.heap.size) (ok := fun k_ => True) (n := t408.length) (c := co11) ?_).2.2; exact (by (with_reducible repeat (first | apply Kd.R_alloc | apply Kd.R_drewN | apply Kd.R_drew)); exact (Kd.R_mono (Kd.R_far (p := ⟨gb411, 1, none⟩) (Kd.R_far (p := ⟨gb411, 0, none⟩) (Kd.R_types HO410.out BK411.out (by decide)) (fun _ hk => hk.2) (.int .i64 t407)) (fun _ hk => hk.2) (.slice Ao11 t408.length co11)) (fun _ h_ => h_.1)))); (case side2 => exact (Kd.R_reads' HO410.out).2.1); rintro e w12 ⟨rfl, hb⟩; refine ⟨_, rfl, ?_⟩; have n0_ := Aside0.mk (Kd.R_below (by (with_reducible repeat (first | apply Kd.R_alloc | apply Kd.R_drewN | apply Kd.R_drew)); exact (Kd.R_mono (Kd.R_far (p := ⟨gb411, 1, none⟩) (Kd.R_far (p := ⟨gb411, 0, none⟩) (Kd.R_types HO410.out BK411.out (by decide)) (fun _ hk => hk.2) (.int .i64 t407)) (fun _ hk => hk.2) (.slice Ao11 t408.length co11)) (fun _ h_ => h_.1))) hb); have n1_ := Aside0.mk (blk_below (g := gb411) (o := .cells #[.int .i64 t407, .slice Ao11 t408.length co11] 27 (0, 0)) (by (with_reducible repeat (first | refine blk_drewN ?_ _ | refine blk_drew ?_ | refine blk_alloc ?_ _)); refine blk_put (cs := #[.int .i64 t407, .slice none 0 0]) ?_ 1 _ rfl; (with_reducible repeat (first | refine blk_drewN ?_ _ | refine blk_drew ?_ | refine blk_alloc ?_ _)); refine blk_put (cs := #[.int .i64 0, .slice none 0 0]) ?_ 0 _ rfl; (with_reducible repeat (first | refine blk_drewN ?_ _ | refine blk_drew ?_ | refine blk_alloc ?_ _)); exact BK411.out) hb); have n2_ := Aside0.mk (below_step (by repeat (first | (with_reducible first | exact HB.out | apply below_alloc | apply pw_below_drewN | apply below_drew1 | refine below_set ?_ GE411.out) | exact HB.out)) hb); clear HO410; clear BK411; clear HB; have HO410 := n0_; have BK411 := n1_; have HB := n2_; clear n0_ n1_ n2_; (try clear hb); (try clear hb2); (try clear hk); (try clear hi); have hcz13_0 : w12.cell? ⟨gb411, 0, none⟩ = some (.int .i64 t407) := (blk_cell BK411.out 0).trans rfl; have hcz13_1 : w12.cell? ⟨gb411, 1, none⟩ = some (.slice Ao11 t408.length co11) := (blk_cell BK411.out 1).trans rfl; have hfz13_0 := blk_frozen BK411.out 0; have hfz13_1 := blk_frozen BK411.out 1) | ((with_reducible refine gate_callee (f := 21) rfl ?_); refine goesL_ (some 16) rfl rfl Tryd.func21 (by kernel_rfl) rfl #[.agg #[.int .i64 t407, .slice Ao11 t408.length co11]] rfl (by (try simp only [List.map_toArray, List.map_cons, List.map_nil]); first | done | rfl | (simp only [List.length_drop, List.length_take]; rfl)) ?_; (with_reducible refine (impl_FewestDominating.calls k t407 _ _ t408 t413 _ ?side1 ?side2 A5.out).mono ?_); (case side1 => repeat (first | exact (Kd.R_reads' HO410.out).2.2 | (with_reducible refine Kd.C_alloc ?_ _) | (with_reducible refine Kd.C_drewN ?_ _) | (with_reducible refine Kd.C_drew ?_))); (case side2 => exact (Kd.R_reads' HO410.out).2.1); rintro e w14 ⟨rfl, hb⟩; refine ⟨_, rfl, ?_⟩; have n0_ := Aside0.mk (Kd.R_below (by (with_reducible repeat (first | apply Kd.R_alloc | apply Kd.R_drewN | apply Kd.R_drew)); exact HO410.out) hb); have n1_ := Aside0.mk (blk_below (g := gb411) (o := .cells #[.int .i64 t407, .slice Ao11 t408.length co11] 27 (0, 0)) (by (with_reducible repeat (first | refine blk_drewN ?_ _ | refine blk_drew ?_ | refine blk_alloc ?_ _)); exact BK411.out) hb); have n2_ := Aside0.mk (below_step (by repeat (first | (with_reducible first | exact HB.out | apply below_alloc | apply pw_below_drewN | apply below_drew1 | refine below_set ?_ GE411.out) | exact HB.out)) hb); clear HO410; clear BK411; clear HB; have HO410 := n0_; have BK411 := n1_; have HB := n2_; clear n0_ n1_ n2_; (try clear hb); (try clear hb2); (try clear hk); (try clear hi); have hcz15_0 : w14.cell? ⟨gb411, 0, none⟩ = some (.int .i64 t407) := (blk_cell BK411.out 0).trans rfl; have hcz15_1 : w14.cell? ⟨gb411, 1, none⟩ = some (.slice Ao11 t408.length co11) := (blk_cell BK411.out 1).trans rfl; have hfz15_0 := blk_frozen BK411.out 0; have hfz15_1 := blk_frozen BK411.out 1) | ((with_reducible refine gate_callee (f := 22) rfl ?_); refine goesL_ (some 18) rfl rfl Tryd.func22 (by kernel_rfl) rfl #[.agg #[.int .i64 t407, .slice Ao11 t408.length co11]] rfl (by (try simp only [List.map_toArray, List.map_cons, List.map_nil]); first | done | rfl | (simp only [List.length_drop, List.length_take]; rfl)) ?_; (with_reducible refine (impl_CliqueCover.calls k t407 _ _ t408 t414 _ ?side1 ?side2 ?sideT_ A6.out).mono ?_); (case sideT_ => first | exact HT9_.out | exact HT9_.out.below HB.out | (repeat (first | exact HT9_.out | exact HT9_.out.below HB.out | (with_reducible refine TabZ.alloc ?_ _) | (with_reducible refine TabZ.drewN ?_ _) | (with_reducible refine TabZ.drew ?_)))); (case side1 => repeat (first | exact (Kd.R_reads' HO410.out).2.2 | (with_reducible refine Kd.C_alloc ?_ _) | (with_reducible refine Kd.C_drewN ?_ _) | (with_reducible refine Kd.C_drew ?_))); (case side2 => exact (Kd.R_reads' HO410.out).2.1); rintro e w16 ⟨rfl, hb⟩; refine ⟨_, rfl, ?_⟩; have n0_ := Aside0.mk (Kd.R_below (by (with_reducible repeat (first | apply Kd.R_alloc | apply Kd.R_drewN | apply Kd.R_drew)); exact HO410.out) hb); have n1_ := Aside0.mk (blk_below (g := gb411) (o := .cells #[.int .i64 t407, .slice Ao11 t408.length co11] 27 (0, 0)) (by (with_reducible repeat (first | refine blk_drewN ?_ _ | refine blk_drew ?_ | refine blk_alloc ?_ _)); exact BK411.out) hb); have n2_ := Aside0.mk (below_step (by repeat (first | (with_reducible first | exact HB.out | apply below_alloc | apply pw_below_drewN | apply below_drew1 | refine below_set ?_ GE411.out) | exact HB.out)) hb); clear HO410; clear BK411; clear HB; have HO410 := n0_; have BK411 := n1_; have HB := n2_; clear n0_ n1_ n2_; (try clear hb); (try clear hb2); (try clear hk); (try clear hi)))
    (try simp only [Act.put, List.setIfInBounds_toArray, List.set_cons_zero, List.set_cons_succ])
    go_cut [53] (fun v53 wc => ∃ (kq : Nat) (x53_6 : Bool), v53 = .bool x53_6 ∧ Aside0 (laws_FnCovers.j0 kq l0 t412 t413 x53_6 t407 t408 = some r) ∧ Aside0 (kq ≤ k) ∧ Aside0 (Kd.R (Kd.int .i64) 3 wc w.heap.size (fun _ => True) (.slice Ao11 t408.length co11) t408) ∧ Aside0 (wc.heap[gb411]? = some (.cells #[.int .i64 t407, (.slice Ao11 t408.length co11)] 27 (0, 0))) ∧ Aside0 (Below w.heap.size w wc))
    case first =>
      have H := HC7.out
      clear HC7
      replace H := Option.bind_eq_some_iff.mp H
      obtain ⟨t415, A170, H⟩ := H
      replace H : (if t415 = true then ((impl_IsDominating.f k t407 t408 t412).bind fun t416 => (if t416 = true then ((impl_IsDominating.f k t407 t408 t413).bind fun t417 => (if t417 = true then ((impl_CountSet.f t413).bind fun t418 => ((impl_CountSet.f t412).bind fun t419 => (if t418 > t419 then (laws_FnCovers.j0 k l0 t412 t413 true t407 t408) else ((impl_CountSet.f t412).bind fun t420 => (if t420 > t414 then (laws_FnCovers.j0 k l0 t412 t413 true t407 t408) else (laws_FnCovers.j0 k l0 t412 t413 (decide (t414 > t407)) t407 t408)))))) else (laws_FnCovers.j0 k l0 t412 t413 true t407 t408))) else (laws_FnCovers.j0 k l0 t412 t413 true t407 t408))) else (laws_FnCovers.j0 k l0 t412 t413 true t407 t408)) = some r := H
      have A17 := Aside0.mk A170
      clear A170
      by_cases c18 : t415 = true
      · subst c18
        have H1 : ((impl_IsDominating.f k t407 t408 t412).bind fun t416 => (if t416 = true then ((impl_IsDominating.f k t407 t408 t413).bind fun t417 => (if t417 = true then ((impl_CountSet.f t413).bind fun t418 => ((impl_CountSet.f t412).bind fun t419 => (if t418 > t419 then (laws_FnCovers.j0 k l0 t412 t413 true t407 t408) else ((impl_CountSet.f t412).bind fun t420 => (if t420 > t414 then (laws_FnCovers.j0 k l0 t412 t413 true t407 t408) else (laws_FnCovers.j0 k l0 t412 t413 (decide (t414 > t407)) t407 t408)))))) else (laws_FnCovers.j0 k l0 t412 t413 true t407 t408))) else (laws_FnCovers.j0 k l0 t412 t413 true t407 t408))) = some r := by rw [if_pos rfl] at H; exact H
        clear H
        have H := H1
        clear H1
        replace H := Option.bind_eq_some_iff.mp H
        obtain ⟨t416, A190, H⟩ := H
        replace H : (if t416 = true then ((impl_IsDominating.f k t407 t408 t413).bind fun t417 => (if t417 = true then ((impl_CountSet.f t413).bind fun t418 => ((impl_CountSet.f t412).bind fun t419 => (if t418 > t419 then (laws_FnCovers.j0 k l0 t412 t413 true t407 t408) else ((impl_CountSet.f t412).bind fun t420 => (if t420 > t414 then (laws_FnCovers.j0 k l0 t412 t413 true t407 t408) else (laws_FnCovers.j0 k l0 t412 t413 (decide (t414 > t407)) t407 t408)))))) else (laws_FnCovers.j0 k l0 t412 t413 true t407 t408))) else (laws_FnCovers.j0 k l0 t412 t413 true t407 t408)) = some r := H
        have A19 := Aside0.mk A190
        clear A190
        by_cases c20 : t416 = true
        · subst c20
          have H1 : ((impl_IsDominating.f k t407 t408 t413).bind fun t417 => (if t417 = true then ((impl_CountSet.f t413).bind fun t418 => ((impl_CountSet.f t412).bind fun t419 => (if t418 > t419 then (laws_FnCovers.j0 k l0 t412 t413 true t407 t408) else ((impl_CountSet.f t412).bind fun t420 => (if t420 > t414 then (laws_FnCovers.j0 k l0 t412 t413 true t407 t408) else (laws_FnCovers.j0 k l0 t412 t413 (decide (t414 > t407)) t407 t408)))))) else (laws_FnCovers.j0 k l0 t412 t413 true t407 t408))) = some r := by rw [if_pos rfl] at H; exact H
          clear H
          have H := H1
          clear H1
          replace H := Option.bind_eq_some_iff.mp H
          obtain ⟨t417, A210, H⟩ := H
          replace H : (if t417 = true then ((impl_CountSet.f t413).bind fun t418 => ((impl_CountSet.f t412).bind fun t419 => (if t418 > t419 then (laws_FnCovers.j0 k l0 t412 t413 true t407 t408) else ((impl_CountSet.f t412).bind fun t420 => (if t420 > t414 then (laws_FnCovers.j0 k l0 t412 t413 true t407 t408) else (laws_FnCovers.j0 k l0 t412 t413 (decide (t414 > t407)) t407 t408)))))) else (laws_FnCovers.j0 k l0 t412 t413 true t407 t408)) = some r := H
          have A21 := Aside0.mk A210
          clear A210
          by_cases c22 : t417 = true
          · subst c22
            have H1 : ((impl_CountSet.f t413).bind fun t418 => ((impl_CountSet.f t412).bind fun t419 => (if t418 > t419 then (laws_FnCovers.j0 k l0 t412 t413 true t407 t408) else ((impl_CountSet.f t412).bind fun t420 => (if t420 > t414 then (laws_FnCovers.j0 k l0 t412 t413 true t407 t408) else (laws_FnCovers.j0 k l0 t412 t413 (decide (t414 > t407)) t407 t408)))))) = some r := by rw [if_pos rfl] at H; exact H
            clear H
            have H := H1
            clear H1
            replace H := Option.bind_eq_some_iff.mp H
            obtain ⟨t418, A230, H⟩ := H
            replace H : ((impl_CountSet.f t412).bind fun t419 => (if t418 > t419 then (laws_FnCovers.j0 k l0 t412 t413 true t407 t408) else ((impl_CountSet.f t412).bind fun t420 => (if t420 > t414 then (laws_FnCovers.j0 k l0 t412 t413 true t407 t408) else (laws_FnCovers.j0 k l0 t412 t413 (decide (t414 > t407)) t407 t408))))) = some r := H
            have A23 := Aside0.mk A230
            clear A230
            replace H := Option.bind_eq_some_iff.mp H
            obtain ⟨t419, A240, H⟩ := H
            replace H : (if t418 > t419 then (laws_FnCovers.j0 k l0 t412 t413 true t407 t408) else ((impl_CountSet.f t412).bind fun t420 => (if t420 > t414 then (laws_FnCovers.j0 k l0 t412 t413 true t407 t408) else (laws_FnCovers.j0 k l0 t412 t413 (decide (t414 > t407)) t407 t408)))) = some r := H
            have A24 := Aside0.mk A240
            clear A240
            by_cases c25 : t418 > t419
            · rw [if_pos c25] at H
              have c25b0 : decide (t419 < t418) = true := decide_eq_true c25
              clear c25
              (first | rw [c25b0] | (simp only [i64_w, i32_w]; rw [c25b0]) | skip)
              have H' := Aside0.mk H
              clear H
              have hcz26_0 : w16.cell? ⟨gb411, 0, none⟩ = some (.int .i64 t407) := (blk_cell BK411.out 0).trans rfl
              have hcz26_1 : w16.cell? ⟨gb411, 1, none⟩ = some (.slice Ao11 t408.length co11) := (blk_cell BK411.out 1).trans rfl
              have hfz26_0 := blk_frozen BK411.out 0
              have hfz26_1 := blk_frozen BK411.out 1
              go_wp2_with (first | ((with_reducible refine gate_callee (f := 23) rfl ?_); refine goesL_ (some 21) rfl rfl Tryd.func23 (by kernel_rfl) rfl #[.agg #[.int .i64 t407, .slice Ao11 t408.length co11], .int .i64 t412] rfl (by (try simp only [List.map_toArray, List.map_cons, List.map_nil]); first | done | rfl | (simp only [List.length_drop, List.length_take]; rfl)) ?_; (with_reducible refine (impl_IsIndependent.calls k t407 _ _ t408 t412 true _ ?side1 ?side2 A17.out).mono ?_); (case side1 => repeat (first | exact (Kd.R_reads' HO410.out).2.2 | (with_reducible refine Kd.C_alloc ?_ _) | (with_reducible refine Kd.C_drewN ?_ _) | (with_reducible refine Kd.C_drew ?_))); (case side2 => exact (Kd.R_reads' HO410.out).2.1); rintro e w27 ⟨rfl, hb⟩; refine ⟨_, rfl, ?_⟩; have n0_ := Aside0.mk (Kd.R_below (by (with_reducible repeat (first | apply Kd.R_alloc | apply Kd.R_drewN | apply Kd.R_drew)); exact HO410.out) hb); have n1_ := Aside0.mk (blk_below (g := gb411) (o := .cells #[.int .i64 t407, .slice Ao11 t408.length co11] 27 (0, 0)) (by (with_reducible repeat (first | refine blk_drewN ?_ _ | refine blk_drew ?_ | refine blk_alloc ?_ _)); exact BK411.out) hb); have n2_ := Aside0.mk (below_step (by repeat (first | (with_reducible first | exact HB.out | apply below_alloc | apply pw_below_drewN | apply below_drew1 | refine below_set ?_ GE411.out) | exact HB.out)) hb); clear HO410; clear BK411; clear HB; have HO410 := n0_; have BK411 := n1_; have HB := n2_; clear n0_ n1_ n2_; (try clear hb); (try clear hb2); (try clear hk); (try clear hi); have hcz28_0 : w27.cell? ⟨gb411, 0, none⟩ = some (.int .i64 t407) := (blk_cell BK411.out 0).trans rfl; have hcz28_1 : w27.cell? ⟨gb411, 1, none⟩ = some (.slice Ao11 t408.length co11) := (blk_cell BK411.out 1).trans rfl; have hfz28_0 := blk_frozen BK411.out 0; have hfz28_1 := blk_frozen BK411.out 1) | (go_at_call 24; (with_reducible refine (impl_IsDominating.calls k t407 _ _ t408 t412 true _ ?side1 ?side2 A19.out).mono ?_); (case side1 => repeat (first | exact (Kd.R_reads' HO410.out).2.2 | (with_reducible refine Kd.C_alloc ?_ _) | (with_reducible refine Kd.C_drewN ?_ _) | (with_reducible refine Kd.C_drew ?_))); (case side2 => exact (Kd.R_reads' HO410.out).2.1); rintro e w29 ⟨rfl, hb⟩; have n0_ := Aside0.mk (Kd.R_below (by (with_reducible repeat (first | apply Kd.R_alloc | apply Kd.R_drewN | apply Kd.R_drew)); exact HO410.out) hb); have n1_ := Aside0.mk (blk_below (g := gb411) (o := .cells #[.int .i64 t407, .slice Ao11 t408.length co11] 27 (0, 0)) (by (with_reducible repeat (first | refine blk_drewN ?_ _ | refine blk_drew ?_ | refine blk_alloc ?_ _)); exact BK411.out) hb); have n2_ := Aside0.mk (below_step (by repeat (first | (with_reducible first | exact HB.out | apply below_alloc | apply pw_below_drewN | apply below_drew1 | refine below_set ?_ GE411.out) | exact HB.out)) hb); clear HO410; clear BK411; clear HB; have HO410 := n0_; have BK411 := n1_; have HB := n2_; clear n0_ n1_ n2_; (try clear hb); (try clear hb2); (try clear hk); (try clear hi); have hcz30_0 : w29.cell? ⟨gb411, 0, none⟩ = some (.int .i64 t407) := (blk_cell BK411.out 0).trans rfl; have hcz30_1 : w29.cell? ⟨gb411, 1, none⟩ = some (.slice Ao11 t408.length co11) := (blk_cell BK411.out 1).trans rfl; have hfz30_0 := blk_frozen BK411.out 0; have hfz30_1 := blk_frozen BK411.out 1) | (go_at_call 24; (with_reducible refine (impl_IsDominating.calls k t407 _ _ t408 t413 true _ ?side1 ?side2 A21.out).mono ?_); (case side1 => repeat (first | exact (Kd.R_reads' HO410.out).2.2 | (with_reducible refine Kd.C_alloc ?_ _) | (with_reducible refine Kd.C_drewN ?_ _) | (with_reducible refine Kd.C_drew ?_))); (case side2 => exact (Kd.R_reads' HO410.out).2.1); rintro e w31 ⟨rfl, hb⟩; have n0_ := Aside0.mk (Kd.R_below (by (with_reducible repeat (first | apply Kd.R_alloc | apply Kd.R_drewN | apply Kd.R_drew)); exact HO410.out) hb); have n1_ := Aside0.mk (blk_below (g := gb411) (o := .cells #[.int .i64 t407, .slice Ao11 t408.length co11] 27 (0, 0)) (by (with_reducible repeat (first | refine blk_drewN ?_ _ | refine blk_drew ?_ | refine blk_alloc ?_ _)); exact BK411.out) hb); have n2_ := Aside0.mk (below_step (by repeat (first | (with_reducible first | exact HB.out | apply below_alloc | apply pw_below_drewN | apply below_drew1 | refine below_set ?_ GE411.out) | exact HB.out)) hb); clear HO410; clear BK411; clear HB; have HO410 := n0_; have BK411 := n1_; have HB := n2_; clear n0_ n1_ n2_; (try clear hb); (try clear hb2); (try clear hk); (try clear hi)) | (go_at_call 25; (with_reducible refine (impl_CountSet.calls t413 t418 _ A23.out).mono ?_); rintro e w' ⟨rfl, ⟨nd, rfl⟩⟩) | (go_at_call 25; (with_reducible refine (impl_CountSet.calls t412 t419 _ A24.out).mono ?_); rintro e w' ⟨rfl, ⟨nd, rfl⟩⟩))
              go_meet
              case rel => exact ⟨_, (true), (by first | rfl | (simp; done) | (simp [*]; done)), H', ⟨by first | omega | exact Nat.le_refl _⟩, ⟨by (with_reducible repeat (first | apply Kd.R_alloc | apply Kd.R_drewN | apply Kd.R_drew)); exact HO410.out⟩, ⟨by (with_reducible repeat (first | refine blk_drewN ?_ _ | refine blk_drew ?_ | refine blk_alloc ?_ _)); exact BK411.out⟩, ⟨by repeat (first | (with_reducible first | exact HB.out | apply below_alloc | apply pw_below_drewN | apply below_drew1 | refine below_set ?_ GE411.out) | exact HB.out)⟩⟩
            · rw [if_neg c25] at H
              have c25b0 : decide (t419 < t418) = false := decide_eq_false c25
              clear c25
              (first | rw [c25b0] | (simp only [i64_w, i32_w]; rw [c25b0]) | skip)
              replace H := Option.bind_eq_some_iff.mp H
              obtain ⟨t420, A320, H⟩ := H
              replace H : (if t420 > t414 then (laws_FnCovers.j0 k l0 t412 t413 true t407 t408) else (laws_FnCovers.j0 k l0 t412 t413 (decide (t414 > t407)) t407 t408)) = some r := H
              have A32 := Aside0.mk A320
              clear A320
              by_cases c33 : t420 > t414
              · rw [if_pos c33] at H
                have c33b0 : decide (t414 < t420) = true := decide_eq_true c33
                have c33b1 : decide (t414 < t419) = true := by rw [show t419 = t420 from Option.some.inj (A24.out.symm.trans A32.out)]; exact c33b0
                clear c33
                have H' := Aside0.mk H
                clear H
                have hcz34_0 : w16.cell? ⟨gb411, 0, none⟩ = some (.int .i64 t407) := (blk_cell BK411.out 0).trans rfl
                have hcz34_1 : w16.cell? ⟨gb411, 1, none⟩ = some (.slice Ao11 t408.length co11) := (blk_cell BK411.out 1).trans rfl
                have hfz34_0 := blk_frozen BK411.out 0
                have hfz34_1 := blk_frozen BK411.out 1
                go_wp2_with (first | ((with_reducible refine gate_callee (f := 23) rfl ?_); refine goesL_ (some 21) rfl rfl Tryd.func23 (by kernel_rfl) rfl #[.agg #[.int .i64 t407, .slice Ao11 t408.length co11], .int .i64 t412] rfl (by (try simp only [List.map_toArray, List.map_cons, List.map_nil]); first | done | rfl | (simp only [List.length_drop, List.length_take]; rfl)) ?_; (with_reducible refine (impl_IsIndependent.calls k t407 _ _ t408 t412 true _ ?side1 ?side2 A17.out).mono ?_); (case side1 => repeat (first | exact (Kd.R_reads' HO410.out).2.2 | (with_reducible refine Kd.C_alloc ?_ _) | (with_reducible refine Kd.C_drewN ?_ _) | (with_reducible refine Kd.C_drew ?_))); (case side2 => exact (Kd.R_reads' HO410.out).2.1); rintro e w35 ⟨rfl, hb⟩; refine ⟨_, rfl, ?_⟩; have n0_ := Aside0.mk (Kd.R_below (by (with_reducible repeat (first | apply Kd.R_alloc | apply Kd.R_drewN | apply Kd.R_drew)); exact HO410.out) hb); have n1_ := Aside0.mk (blk_below (g := gb411) (o := .cells #[.int .i64 t407, .slice Ao11 t408.length co11] 27 (0, 0)) (by (with_reducible repeat (first | refine blk_drewN ?_ _ | refine blk_drew ?_ | refine blk_alloc ?_ _)); exact BK411.out) hb); have n2_ := Aside0.mk (below_step (by repeat (first | (with_reducible first | exact HB.out | apply below_alloc | apply pw_below_drewN | apply below_drew1 | refine below_set ?_ GE411.out) | exact HB.out)) hb); clear HO410; clear BK411; clear HB; have HO410 := n0_; have BK411 := n1_; have HB := n2_; clear n0_ n1_ n2_; (try clear hb); (try clear hb2); (try clear hk); (try clear hi); have hcz36_0 : w35.cell? ⟨gb411, 0, none⟩ = some (.int .i64 t407) := (blk_cell BK411.out 0).trans rfl; have hcz36_1 : w35.cell? ⟨gb411, 1, none⟩ = some (.slice Ao11 t408.length co11) := (blk_cell BK411.out 1).trans rfl; have hfz36_0 := blk_frozen BK411.out 0; have hfz36_1 := blk_frozen BK411.out 1) | (go_at_call 24; (with_reducible refine (impl_IsDominating.calls k t407 _ _ t408 t412 true _ ?side1 ?side2 A19.out).mono ?_); (case side1 => repeat (first | exact (Kd.R_reads' HO410.out).2.2 | (with_reducible refine Kd.C_alloc ?_ _) | (with_reducible refine Kd.C_drewN ?_ _) | (with_reducible refine Kd.C_drew ?_))); (case side2 => exact (Kd.R_reads' HO410.out).2.1); rintro e w37 ⟨rfl, hb⟩; have n0_ := Aside0.mk (Kd.R_below (by (with_reducible repeat (first | apply Kd.R_alloc | apply Kd.R_drewN | apply Kd.R_drew)); exact HO410.out) hb); have n1_ := Aside0.mk (blk_below (g := gb411) (o := .cells #[.int .i64 t407, .slice Ao11 t408.length co11] 27 (0, 0)) (by (with_reducible repeat (first | refine blk_drewN ?_ _ | refine blk_drew ?_ | refine blk_alloc ?_ _)); exact BK411.out) hb); have n2_ := Aside0.mk (below_step (by repeat (first | (with_reducible first | exact HB.out | apply below_alloc | apply pw_below_drewN | apply below_drew1 | refine below_set ?_ GE411.out) | exact HB.out)) hb); clear HO410; clear BK411; clear HB; have HO410 := n0_; have BK411 := n1_; have HB := n2_; clear n0_ n1_ n2_; (try clear hb); (try clear hb2); (try clear hk); (try clear hi); have hcz38_0 : w37.cell? ⟨gb411, 0, none⟩ = some (.int .i64 t407) := (blk_cell BK411.out 0).trans rfl; have hcz38_1 : w37.cell? ⟨gb411, 1, none⟩ = some (.slice Ao11 t408.length co11) := (blk_cell BK411.out 1).trans rfl; have hfz38_0 := blk_frozen BK411.out 0; have hfz38_1 := blk_frozen BK411.out 1) | (go_at_call 24; (with_reducible refine (impl_IsDominating.calls k t407 _ _ t408 t413 true _ ?side1 ?side2 A21.out).mono ?_); (case side1 => repeat (first | exact (Kd.R_reads' HO410.out).2.2 | (with_reducible refine Kd.C_alloc ?_ _) | (with_reducible refine Kd.C_drewN ?_ _) | (with_reducible refine Kd.C_drew ?_))); (case side2 => exact (Kd.R_reads' HO410.out).2.1); rintro e w39 ⟨rfl, hb⟩; have n0_ := Aside0.mk (Kd.R_below (by (with_reducible repeat (first | apply Kd.R_alloc | apply Kd.R_drewN | apply Kd.R_drew)); exact HO410.out) hb); have n1_ := Aside0.mk (blk_below (g := gb411) (o := .cells #[.int .i64 t407, .slice Ao11 t408.length co11] 27 (0, 0)) (by (with_reducible repeat (first | refine blk_drewN ?_ _ | refine blk_drew ?_ | refine blk_alloc ?_ _)); exact BK411.out) hb); have n2_ := Aside0.mk (below_step (by repeat (first | (with_reducible first | exact HB.out | apply below_alloc | apply pw_below_drewN | apply below_drew1 | refine below_set ?_ GE411.out) | exact HB.out)) hb); clear HO410; clear BK411; clear HB; have HO410 := n0_; have BK411 := n1_; have HB := n2_; clear n0_ n1_ n2_; (try clear hb); (try clear hb2); (try clear hk); (try clear hi)) | (go_at_call 25; (with_reducible refine (impl_CountSet.calls t413 t418 _ A23.out).mono ?_); rintro e w' ⟨rfl, ⟨nd, rfl⟩⟩) | (go_at_call 25; (with_reducible refine (impl_CountSet.calls t412 t419 _ A24.out).mono ?_); rintro e w' ⟨rfl, ⟨nd, rfl⟩⟩) | (go_at_call 25; (with_reducible refine (impl_CountSet.calls t412 t420 _ A32.out).mono ?_); rintro e w' ⟨rfl, ⟨nd, rfl⟩⟩))
                go_meet
                case rel => exact ⟨_, (true), (by first | rfl | (simp; done) | (simp [*]; done)), H', ⟨by first | omega | exact Nat.le_refl _⟩, ⟨by (with_reducible repeat (first | apply Kd.R_alloc | apply Kd.R_drewN | apply Kd.R_drew)); exact HO410.out⟩, ⟨by (with_reducible repeat (first | refine blk_drewN ?_ _ | refine blk_drew ?_ | refine blk_alloc ?_ _)); exact BK411.out⟩, ⟨by repeat (first | (with_reducible first | exact HB.out | apply below_alloc | apply pw_below_drewN | apply below_drew1 | refine below_set ?_ GE411.out) | exact HB.out)⟩⟩
              · rw [if_neg c33] at H
                have c33b0 : decide (t414 < t420) = false := decide_eq_false c33
                have c33b1 : decide (t414 < t419) = false := by rw [show t419 = t420 from Option.some.inj (A24.out.symm.trans A32.out)]; exact c33b0
                clear c33
                have H' := Aside0.mk H
                clear H
                have hcz40_0 : w16.cell? ⟨gb411, 0, none⟩ = some (.int .i64 t407) := (blk_cell BK411.out 0).trans rfl
                have hcz40_1 : w16.cell? ⟨gb411, 1, none⟩ = some (.slice Ao11 t408.length co11) := (blk_cell BK411.out 1).trans rfl
                have hfz40_0 := blk_frozen BK411.out 0
                have hfz40_1 := blk_frozen BK411.out 1
                go_wp2_with (first | ((with_reducible refine gate_callee (f := 23) rfl ?_); refine goesL_ (some 21) rfl rfl Tryd.func23 (by kernel_rfl) rfl #[.agg #[.int .i64 t407, .slice Ao11 t408.length co11], .int .i64 t412] rfl (by (try simp only [List.map_toArray, List.map_cons, List.map_nil]); first | done | rfl | (simp only [List.length_drop, List.length_take]; rfl)) ?_; (with_reducible refine (impl_IsIndependent.calls k t407 _ _ t408 t412 true _ ?side1 ?side2 A17.out).mono ?_); (case side1 => repeat (first | exact (Kd.R_reads' HO410.out).2.2 | (with_reducible refine Kd.C_alloc ?_ _) | (with_reducible refine Kd.C_drewN ?_ _) | (with_reducible refine Kd.C_drew ?_))); (case side2 => exact (Kd.R_reads' HO410.out).2.1); rintro e w41 ⟨rfl, hb⟩; refine ⟨_, rfl, ?_⟩; have n0_ := Aside0.mk (Kd.R_below (by (with_reducible repeat (first | apply Kd.R_alloc | apply Kd.R_drewN | apply Kd.R_drew)); exact HO410.out) hb); have n1_ := Aside0.mk (blk_below (g := gb411) (o := .cells #[.int .i64 t407, .slice Ao11 t408.length co11] 27 (0, 0)) (by (with_reducible repeat (first | refine blk_drewN ?_ _ | refine blk_drew ?_ | refine blk_alloc ?_ _)); exact BK411.out) hb); have n2_ := Aside0.mk (below_step (by repeat (first | (with_reducible first | exact HB.out | apply below_alloc | apply pw_below_drewN | apply below_drew1 | refine below_set ?_ GE411.out) | exact HB.out)) hb); clear HO410; clear BK411; clear HB; have HO410 := n0_; have BK411 := n1_; have HB := n2_; clear n0_ n1_ n2_; (try clear hb); (try clear hb2); (try clear hk); (try clear hi); have hcz42_0 : w41.cell? ⟨gb411, 0, none⟩ = some (.int .i64 t407) := (blk_cell BK411.out 0).trans rfl; have hcz42_1 : w41.cell? ⟨gb411, 1, none⟩ = some (.slice Ao11 t408.length co11) := (blk_cell BK411.out 1).trans rfl; have hfz42_0 := blk_frozen BK411.out 0; have hfz42_1 := blk_frozen BK411.out 1) | (go_at_call 24; (with_reducible refine (impl_IsDominating.calls k t407 _ _ t408 t412 true _ ?side1 ?side2 A19.out).mono ?_); (case side1 => repeat (first | exact (Kd.R_reads' HO410.out).2.2 | (with_reducible refine Kd.C_alloc ?_ _) | (with_reducible refine Kd.C_drewN ?_ _) | (with_reducible refine Kd.C_drew ?_))); (case side2 => exact (Kd.R_reads' HO410.out).2.1); rintro e w43 ⟨rfl, hb⟩; have n0_ := Aside0.mk (Kd.R_below (by (with_reducible repeat (first | apply Kd.R_alloc | apply Kd.R_drewN | apply Kd.R_drew)); exact HO410.out) hb); have n1_ := Aside0.mk (blk_below (g := gb411) (o := .cells #[.int .i64 t407, .slice Ao11 t408.length co11] 27 (0, 0)) (by (with_reducible repeat (first | refine blk_drewN ?_ _ | refine blk_drew ?_ | refine blk_alloc ?_ _)); exact BK411.out) hb); have n2_ := Aside0.mk (below_step (by repeat (first | (with_reducible first | exact HB.out | apply below_alloc | apply pw_below_drewN | apply below_drew1 | refine below_set ?_ GE411.out) | exact HB.out)) hb); clear HO410; clear BK411; clear HB; have HO410 := n0_; have BK411 := n1_; have HB := n2_; clear n0_ n1_ n2_; (try clear hb); (try clear hb2); (try clear hk); (try clear hi); have hcz44_0 : w43.cell? ⟨gb411, 0, none⟩ = some (.int .i64 t407) := (blk_cell BK411.out 0).trans rfl; have hcz44_1 : w43.cell? ⟨gb411, 1, none⟩ = some (.slice Ao11 t408.length co11) := (blk_cell BK411.out 1).trans rfl; have hfz44_0 := blk_frozen BK411.out 0; have hfz44_1 := blk_frozen BK411.out 1) | (go_at_call 24; (with_reducible refine (impl_IsDominating.calls k t407 _ _ t408 t413 true _ ?side1 ?side2 A21.out).mono ?_); (case side1 => repeat (first | exact (Kd.R_reads' HO410.out).2.2 | (with_reducible refine Kd.C_alloc ?_ _) | (with_reducible refine Kd.C_drewN ?_ _) | (with_reducible refine Kd.C_drew ?_))); (case side2 => exact (Kd.R_reads' HO410.out).2.1); rintro e w45 ⟨rfl, hb⟩; have n0_ := Aside0.mk (Kd.R_below (by (with_reducible repeat (first | apply Kd.R_alloc | apply Kd.R_drewN | apply Kd.R_drew)); exact HO410.out) hb); have n1_ := Aside0.mk (blk_below (g := gb411) (o := .cells #[.int .i64 t407, .slice Ao11 t408.length co11] 27 (0, 0)) (by (with_reducible repeat (first | refine blk_drewN ?_ _ | refine blk_drew ?_ | refine blk_alloc ?_ _)); exact BK411.out) hb); have n2_ := Aside0.mk (below_step (by repeat (first | (with_reducible first | exact HB.out | apply below_alloc | apply pw_below_drewN | apply below_drew1 | refine below_set ?_ GE411.out) | exact HB.out)) hb); clear HO410; clear BK411; clear HB; have HO410 := n0_; have BK411 := n1_; have HB := n2_; clear n0_ n1_ n2_; (try clear hb); (try clear hb2); (try clear hk); (try clear hi); have hcz46_0 : w45.cell? ⟨gb411, 0, none⟩ = some (.int .i64 t407) := (blk_cell BK411.out 0).trans rfl; have hcz46_1 : w45.cell? ⟨gb411, 1, none⟩ = some (.slice Ao11 t408.length co11) := (blk_cell BK411.out 1).trans rfl) | (go_at_call 25; (with_reducible refine (impl_CountSet.calls t413 t418 _ A23.out).mono ?_); rintro e w' ⟨rfl, ⟨nd, rfl⟩⟩) | (go_at_call 25; (with_reducible refine (impl_CountSet.calls t412 t419 _ A24.out).mono ?_); rintro e w' ⟨rfl, ⟨nd, rfl⟩⟩) | (go_at_call 25; (with_reducible refine (impl_CountSet.calls t412 t420 _ A32.out).mono ?_); rintro e w' ⟨rfl, ⟨nd, rfl⟩⟩; have hcz46_0 : w45.cell? ⟨gb411, 0, none⟩ = some (.int .i64 t407) := (blk_cell BK411.out 0).trans rfl; have hcz46_1 : w45.cell? ⟨gb411, 1, none⟩ = some (.slice Ao11 t408.length co11) := (blk_cell BK411.out 1).trans rfl; have hfz46_0 := blk_frozen BK411.out 0; have hfz46_1 := blk_frozen BK411.out 1))
                go_meet
                case rel => exact ⟨_, (decide (t414 > t407)), (by first | rfl | (simp; done) | (simp [*]; done)), H', ⟨by first | omega | exact Nat.le_refl _⟩, ⟨by (with_reducible repeat (first | apply Kd.R_alloc | apply Kd.R_drewN | apply Kd.R_drew)); exact HO410.out⟩, ⟨by (with_reducible repeat (first | refine blk_drewN ?_ _ | refine blk_drew ?_ | refine blk_alloc ?_ _)); exact BK411.out⟩, ⟨by repeat (first | (with_reducible first | exact HB.out | apply below_alloc | apply pw_below_drewN | apply below_drew1 | refine below_set ?_ GE411.out) | exact HB.out)⟩⟩
          · replace c22 := Bool.eq_false_iff.mpr c22
            subst c22
            have H1 : (laws_FnCovers.j0 k l0 t412 t413 true t407 t408) = some r := by rw [if_neg (show ¬ (false = true) by decide)] at H; exact H
            clear H
            have H := H1
            clear H1
            have H' := Aside0.mk H
            clear H
            have hcz47_0 : w16.cell? ⟨gb411, 0, none⟩ = some (.int .i64 t407) := (blk_cell BK411.out 0).trans rfl
            have hcz47_1 : w16.cell? ⟨gb411, 1, none⟩ = some (.slice Ao11 t408.length co11) := (blk_cell BK411.out 1).trans rfl
            have hfz47_0 := blk_frozen BK411.out 0
            have hfz47_1 := blk_frozen BK411.out 1
            go_wp2_with (first | ((with_reducible refine gate_callee (f := 23) rfl ?_); refine goesL_ (some 21) rfl rfl Tryd.func23 (by kernel_rfl) rfl #[.agg #[.int .i64 t407, .slice Ao11 t408.length co11], .int .i64 t412] rfl (by (try simp only [List.map_toArray, List.map_cons, List.map_nil]); first | done | rfl | (simp only [List.length_drop, List.length_take]; rfl)) ?_; (with_reducible refine (impl_IsIndependent.calls k t407 _ _ t408 t412 true _ ?side1 ?side2 A17.out).mono ?_); (case side1 => repeat (first | exact (Kd.R_reads' HO410.out).2.2 | (with_reducible refine Kd.C_alloc ?_ _) | (with_reducible refine Kd.C_drewN ?_ _) | (with_reducible refine Kd.C_drew ?_))); (case side2 => exact (Kd.R_reads' HO410.out).2.1); rintro e w48 ⟨rfl, hb⟩; refine ⟨_, rfl, ?_⟩; have n0_ := Aside0.mk (Kd.R_below (by (with_reducible repeat (first | apply Kd.R_alloc | apply Kd.R_drewN | apply Kd.R_drew)); exact HO410.out) hb); have n1_ := Aside0.mk (blk_below (g := gb411) (o := .cells #[.int .i64 t407, .slice Ao11 t408.length co11] 27 (0, 0)) (by (with_reducible repeat (first | refine blk_drewN ?_ _ | refine blk_drew ?_ | refine blk_alloc ?_ _)); exact BK411.out) hb); have n2_ := Aside0.mk (below_step (by repeat (first | (with_reducible first | exact HB.out | apply below_alloc | apply pw_below_drewN | apply below_drew1 | refine below_set ?_ GE411.out) | exact HB.out)) hb); clear HO410; clear BK411; clear HB; have HO410 := n0_; have BK411 := n1_; have HB := n2_; clear n0_ n1_ n2_; (try clear hb); (try clear hb2); (try clear hk); (try clear hi); have hcz49_0 : w48.cell? ⟨gb411, 0, none⟩ = some (.int .i64 t407) := (blk_cell BK411.out 0).trans rfl; have hcz49_1 : w48.cell? ⟨gb411, 1, none⟩ = some (.slice Ao11 t408.length co11) := (blk_cell BK411.out 1).trans rfl; have hfz49_0 := blk_frozen BK411.out 0; have hfz49_1 := blk_frozen BK411.out 1) | (go_at_call 24; (with_reducible refine (impl_IsDominating.calls k t407 _ _ t408 t412 true _ ?side1 ?side2 A19.out).mono ?_); (case side1 => repeat (first | exact (Kd.R_reads' HO410.out).2.2 | (with_reducible refine Kd.C_alloc ?_ _) | (with_reducible refine Kd.C_drewN ?_ _) | (with_reducible refine Kd.C_drew ?_))); (case side2 => exact (Kd.R_reads' HO410.out).2.1); rintro e w50 ⟨rfl, hb⟩; have n0_ := Aside0.mk (Kd.R_below (by (with_reducible repeat (first | apply Kd.R_alloc | apply Kd.R_drewN | apply Kd.R_drew)); exact HO410.out) hb); have n1_ := Aside0.mk (blk_below (g := gb411) (o := .cells #[.int .i64 t407, .slice Ao11 t408.length co11] 27 (0, 0)) (by (with_reducible repeat (first | refine blk_drewN ?_ _ | refine blk_drew ?_ | refine blk_alloc ?_ _)); exact BK411.out) hb); have n2_ := Aside0.mk (below_step (by repeat (first | (with_reducible first | exact HB.out | apply below_alloc | apply pw_below_drewN | apply below_drew1 | refine below_set ?_ GE411.out) | exact HB.out)) hb); clear HO410; clear BK411; clear HB; have HO410 := n0_; have BK411 := n1_; have HB := n2_; clear n0_ n1_ n2_; (try clear hb); (try clear hb2); (try clear hk); (try clear hi); have hcz51_0 : w50.cell? ⟨gb411, 0, none⟩ = some (.int .i64 t407) := (blk_cell BK411.out 0).trans rfl; have hcz51_1 : w50.cell? ⟨gb411, 1, none⟩ = some (.slice Ao11 t408.length co11) := (blk_cell BK411.out 1).trans rfl; have hfz51_0 := blk_frozen BK411.out 0; have hfz51_1 := blk_frozen BK411.out 1) | (go_at_call 24; (with_reducible refine (impl_IsDominating.calls k t407 _ _ t408 t413 false _ ?side1 ?side2 A21.out).mono ?_); (case side1 => repeat (first | exact (Kd.R_reads' HO410.out).2.2 | (with_reducible refine Kd.C_alloc ?_ _) | (with_reducible refine Kd.C_drewN ?_ _) | (with_reducible refine Kd.C_drew ?_))); (case side2 => exact (Kd.R_reads' HO410.out).2.1); rintro e w52 ⟨rfl, hb⟩; have n0_ := Aside0.mk (Kd.R_below (by (with_reducible repeat (first | apply Kd.R_alloc | apply Kd.R_drewN | apply Kd.R_drew)); exact HO410.out) hb); have n1_ := Aside0.mk (blk_below (g := gb411) (o := .cells #[.int .i64 t407, .slice Ao11 t408.length co11] 27 (0, 0)) (by (with_reducible repeat (first | refine blk_drewN ?_ _ | refine blk_drew ?_ | refine blk_alloc ?_ _)); exact BK411.out) hb); have n2_ := Aside0.mk (below_step (by repeat (first | (with_reducible first | exact HB.out | apply below_alloc | apply pw_below_drewN | apply below_drew1 | refine below_set ?_ GE411.out) | exact HB.out)) hb); clear HO410; clear BK411; clear HB; have HO410 := n0_; have BK411 := n1_; have HB := n2_; clear n0_ n1_ n2_; (try clear hb); (try clear hb2); (try clear hk); (try clear hi)))
            go_meet
            case rel => exact ⟨_, (true), (by first | rfl | (simp; done) | (simp [*]; done)), H', ⟨by first | omega | exact Nat.le_refl _⟩, ⟨by (with_reducible repeat (first | apply Kd.R_alloc | apply Kd.R_drewN | apply Kd.R_drew)); exact HO410.out⟩, ⟨by (with_reducible repeat (first | refine blk_drewN ?_ _ | refine blk_drew ?_ | refine blk_alloc ?_ _)); exact BK411.out⟩, ⟨by repeat (first | (with_reducible first | exact HB.out | apply below_alloc | apply pw_below_drewN | apply below_drew1 | refine below_set ?_ GE411.out) | exact HB.out)⟩⟩
        · replace c20 := Bool.eq_false_iff.mpr c20
          subst c20
          have H1 : (laws_FnCovers.j0 k l0 t412 t413 true t407 t408) = some r := by rw [if_neg (show ¬ (false = true) by decide)] at H; exact H
          clear H
          have H := H1
          clear H1
          have H' := Aside0.mk H
          clear H
          have hcz53_0 : w16.cell? ⟨gb411, 0, none⟩ = some (.int .i64 t407) := (blk_cell BK411.out 0).trans rfl
          have hcz53_1 : w16.cell? ⟨gb411, 1, none⟩ = some (.slice Ao11 t408.length co11) := (blk_cell BK411.out 1).trans rfl
          have hfz53_0 := blk_frozen BK411.out 0
          have hfz53_1 := blk_frozen BK411.out 1
          go_wp2_with (first | ((with_reducible refine gate_callee (f := 23) rfl ?_); refine goesL_ (some 21) rfl rfl Tryd.func23 (by kernel_rfl) rfl #[.agg #[.int .i64 t407, .slice Ao11 t408.length co11], .int .i64 t412] rfl (by (try simp only [List.map_toArray, List.map_cons, List.map_nil]); first | done | rfl | (simp only [List.length_drop, List.length_take]; rfl)) ?_; (with_reducible refine (impl_IsIndependent.calls k t407 _ _ t408 t412 true _ ?side1 ?side2 A17.out).mono ?_); (case side1 => repeat (first | exact (Kd.R_reads' HO410.out).2.2 | (with_reducible refine Kd.C_alloc ?_ _) | (with_reducible refine Kd.C_drewN ?_ _) | (with_reducible refine Kd.C_drew ?_))); (case side2 => exact (Kd.R_reads' HO410.out).2.1); rintro e w54 ⟨rfl, hb⟩; refine ⟨_, rfl, ?_⟩; have n0_ := Aside0.mk (Kd.R_below (by (with_reducible repeat (first | apply Kd.R_alloc | apply Kd.R_drewN | apply Kd.R_drew)); exact HO410.out) hb); have n1_ := Aside0.mk (blk_below (g := gb411) (o := .cells #[.int .i64 t407, .slice Ao11 t408.length co11] 27 (0, 0)) (by (with_reducible repeat (first | refine blk_drewN ?_ _ | refine blk_drew ?_ | refine blk_alloc ?_ _)); exact BK411.out) hb); have n2_ := Aside0.mk (below_step (by repeat (first | (with_reducible first | exact HB.out | apply below_alloc | apply pw_below_drewN | apply below_drew1 | refine below_set ?_ GE411.out) | exact HB.out)) hb); clear HO410; clear BK411; clear HB; have HO410 := n0_; have BK411 := n1_; have HB := n2_; clear n0_ n1_ n2_; (try clear hb); (try clear hb2); (try clear hk); (try clear hi); have hcz55_0 : w54.cell? ⟨gb411, 0, none⟩ = some (.int .i64 t407) := (blk_cell BK411.out 0).trans rfl; have hcz55_1 : w54.cell? ⟨gb411, 1, none⟩ = some (.slice Ao11 t408.length co11) := (blk_cell BK411.out 1).trans rfl; have hfz55_0 := blk_frozen BK411.out 0; have hfz55_1 := blk_frozen BK411.out 1) | (go_at_call 24; (with_reducible refine (impl_IsDominating.calls k t407 _ _ t408 t412 false _ ?side1 ?side2 A19.out).mono ?_); (case side1 => repeat (first | exact (Kd.R_reads' HO410.out).2.2 | (with_reducible refine Kd.C_alloc ?_ _) | (with_reducible refine Kd.C_drewN ?_ _) | (with_reducible refine Kd.C_drew ?_))); (case side2 => exact (Kd.R_reads' HO410.out).2.1); rintro e w56 ⟨rfl, hb⟩; have n0_ := Aside0.mk (Kd.R_below (by (with_reducible repeat (first | apply Kd.R_alloc | apply Kd.R_drewN | apply Kd.R_drew)); exact HO410.out) hb); have n1_ := Aside0.mk (blk_below (g := gb411) (o := .cells #[.int .i64 t407, .slice Ao11 t408.length co11] 27 (0, 0)) (by (with_reducible repeat (first | refine blk_drewN ?_ _ | refine blk_drew ?_ | refine blk_alloc ?_ _)); exact BK411.out) hb); have n2_ := Aside0.mk (below_step (by repeat (first | (with_reducible first | exact HB.out | apply below_alloc | apply pw_below_drewN | apply below_drew1 | refine below_set ?_ GE411.out) | exact HB.out)) hb); clear HO410; clear BK411; clear HB; have HO410 := n0_; have BK411 := n1_; have HB := n2_; clear n0_ n1_ n2_; (try clear hb); (try clear hb2); (try clear hk); (try clear hi)))
          go_meet
          case rel => exact ⟨_, (true), (by first | rfl | (simp; done) | (simp [*]; done)), H', ⟨by first | omega | exact Nat.le_refl _⟩, ⟨by (with_reducible repeat (first | apply Kd.R_alloc | apply Kd.R_drewN | apply Kd.R_drew)); exact HO410.out⟩, ⟨by (with_reducible repeat (first | refine blk_drewN ?_ _ | refine blk_drew ?_ | refine blk_alloc ?_ _)); exact BK411.out⟩, ⟨by repeat (first | (with_reducible first | exact HB.out | apply below_alloc | apply pw_below_drewN | apply below_drew1 | refine below_set ?_ GE411.out) | exact HB.out)⟩⟩
      · replace c18 := Bool.eq_false_iff.mpr c18
        subst c18
        have H1 : (laws_FnCovers.j0 k l0 t412 t413 true t407 t408) = some r := by rw [if_neg (show ¬ (false = true) by decide)] at H; exact H
        clear H
        have H := H1
        clear H1
        have H' := Aside0.mk H
        clear H
        have hcz57_0 : w16.cell? ⟨gb411, 0, none⟩ = some (.int .i64 t407) := (blk_cell BK411.out 0).trans rfl
        have hcz57_1 : w16.cell? ⟨gb411, 1, none⟩ = some (.slice Ao11 t408.length co11) := (blk_cell BK411.out 1).trans rfl
        have hfz57_0 := blk_frozen BK411.out 0
        have hfz57_1 := blk_frozen BK411.out 1
        go_wp2_with (first | ((with_reducible refine gate_callee (f := 23) rfl ?_); refine goesL_ (some 21) rfl rfl Tryd.func23 (by kernel_rfl) rfl #[.agg #[.int .i64 t407, .slice Ao11 t408.length co11], .int .i64 t412] rfl (by (try simp only [List.map_toArray, List.map_cons, List.map_nil]); first | done | rfl | (simp only [List.length_drop, List.length_take]; rfl)) ?_; (with_reducible refine (impl_IsIndependent.calls k t407 _ _ t408 t412 false _ ?side1 ?side2 A17.out).mono ?_); (case side1 => repeat (first | exact (Kd.R_reads' HO410.out).2.2 | (with_reducible refine Kd.C_alloc ?_ _) | (with_reducible refine Kd.C_drewN ?_ _) | (with_reducible refine Kd.C_drew ?_))); (case side2 => exact (Kd.R_reads' HO410.out).2.1); rintro e w58 ⟨rfl, hb⟩; refine ⟨_, rfl, ?_⟩; have n0_ := Aside0.mk (Kd.R_below (by (with_reducible repeat (first | apply Kd.R_alloc | apply Kd.R_drewN | apply Kd.R_drew)); exact HO410.out) hb); have n1_ := Aside0.mk (blk_below (g := gb411) (o := .cells #[.int .i64 t407, .slice Ao11 t408.length co11] 27 (0, 0)) (by (with_reducible repeat (first | refine blk_drewN ?_ _ | refine blk_drew ?_ | refine blk_alloc ?_ _)); exact BK411.out) hb); have n2_ := Aside0.mk (below_step (by repeat (first | (with_reducible first | exact HB.out | apply below_alloc | apply pw_below_drewN | apply below_drew1 | refine below_set ?_ GE411.out) | exact HB.out)) hb); clear HO410; clear BK411; clear HB; have HO410 := n0_; have BK411 := n1_; have HB := n2_; clear n0_ n1_ n2_; (try clear hb); (try clear hb2); (try clear hk); (try clear hi)))
        go_meet
        case rel => exact ⟨_, (true), (by first | rfl | (simp; done) | (simp [*]; done)), H', ⟨by first | omega | exact Nat.le_refl _⟩, ⟨by (with_reducible repeat (first | apply Kd.R_alloc | apply Kd.R_drewN | apply Kd.R_drew)); exact HO410.out⟩, ⟨by (with_reducible repeat (first | refine blk_drewN ?_ _ | refine blk_drew ?_ | refine blk_alloc ?_ _)); exact BK411.out⟩, ⟨by repeat (first | (with_reducible first | exact HB.out | apply below_alloc | apply pw_below_drewN | apply below_drew1 | refine below_set ?_ GE411.out) | exact HB.out)⟩⟩
    case rest =>
      clear HC7
      try clear c1
      try clear c2
      try clear c2b0
      try clear c2b1
      try clear p2
      try clear c3
      try clear c4
      try clear c18
      try clear c19
      try clear c20
      try clear c21
      try clear c22
      try clear c23
      try clear c25
      try clear c25b0
      try clear c33
      try clear c33b0
      try clear hcz10_0
      try clear hcz10_1
      try clear hcz13_0
      try clear hcz13_1
      try clear hcz15_0
      try clear hcz15_1
      try clear hcz26_0
      try clear hcz26_1
      try clear hcz28_0
      try clear hcz28_1
      try clear hcz30_0
      try clear hcz30_1
      try clear hcz34_0
      try clear hcz34_1
      try clear hcz36_0
      try clear hcz36_1
      try clear hcz38_0
      try clear hcz38_1
      try clear hcz40_0
      try clear hcz40_1
      try clear hcz42_0
      try clear hcz42_1
      try clear hcz44_0
      try clear hcz44_1
      try clear hcz46_0
      try clear hcz46_1
      try clear hcz47_0
      try clear hcz47_1
      try clear hcz49_0
      try clear hcz49_1
      try clear hcz51_0
      try clear hcz51_1
      try clear hcz53_0
      try clear hcz53_1
      try clear hcz55_0
      try clear hcz55_1
      try clear hcz57_0
      try clear hcz57_1
      try clear hfz10_0
      try clear hfz10_1
      try clear hfz13_0
      try clear hfz13_1
      try clear hfz15_0
      try clear hfz15_1
      try clear hfz26_0
      try clear hfz26_1
      try clear hfz28_0
      try clear hfz28_1
      try clear hfz30_0
      try clear hfz30_1
      try clear hfz34_0
      try clear hfz34_1
      try clear hfz36_0
      try clear hfz36_1
      try clear hfz38_0
      try clear hfz38_1
      try clear hfz40_0
      try clear hfz40_1
      try clear hfz42_0
      try clear hfz42_1
      try clear hfz44_0
      try clear hfz44_1
      try clear hfz46_0
      try clear hfz46_1
      try clear hfz47_0
      try clear hfz47_1
      try clear hfz49_0
      try clear hfz49_1
      try clear hfz51_0
      try clear hfz51_1
      try clear hfz53_0
      try clear hfz53_1
      try clear hfz55_0
      try clear hfz55_1
      try clear hfz57_0
      try clear hfz57_1
      obtain ⟨kq, x53_6, rfl, HA, HJ6, HO_412001, BK411, HB⟩ := hcut
      cases kq with
      | zero => exact absurd HA.out (by simp [laws_FnCovers.j0])
      | succ kj6 =>
        have H := HA.out
        clear HA
        simp only [laws_FnCovers.j0] at H
        by_cases c59 : x53_6 = true
        · subst c59
          have H1 : (some false) = some r := by rw [if_pos rfl] at H; exact H
          clear H
          have H := H1
          clear H1
          obtain rfl := Option.some.inj H
          go_wp2
          go_ret
          exact ⟨by first | rfl | (simp [errW_none, errW_some] <;> rfl) | (simp [*, errW_none, errW_some] <;> rfl), by repeat (first | (with_reducible first | exact HB.out | apply below_alloc | apply pw_below_drewN | apply below_drew1 | refine below_set ?_ GE411.out) | exact HB.out)⟩
        · replace c59 := Bool.eq_false_iff.mpr c59
          subst c59
          have H1 : ((spec_MakeNum.f kj6 l0 30).bind fun t421 => (if 0 ≤ t407 then (if (shl .i64 1 t407) = 0 then (none) else ((impl_IsIndependent.f kj6 t407 t408 (Int.tmod t421 (shl .i64 1 t407))).bind fun t422 => (if t422 = true then ((impl_CountSet.f (Int.tmod t421 (shl .i64 1 t407))).bind fun t423 => ((impl_CountSet.f t412).bind fun t424 => (if t423 > t424 then (laws_FnCovers.j1 kj6 (Int.tmod t421 (shl .i64 1 t407)) true t407 t408) else ((impl_IsDominating.f kj6 t407 t408 (Int.tmod t421 (shl .i64 1 t407))).bind fun t425 => (if t425 = true then ((impl_CountSet.f (Int.tmod t421 (shl .i64 1 t407))).bind fun t426 => ((impl_CountSet.f t413).bind fun t427 => (laws_FnCovers.j1 kj6 (Int.tmod t421 (shl .i64 1 t407)) (decide (t426 < t427)) t407 t408))) else (laws_FnCovers.j1 kj6 (Int.tmod t421 (shl .i64 1 t407)) false t407 t408)))))) else ((impl_IsDominating.f kj6 t407 t408 (Int.tmod t421 (shl .i64 1 t407))).bind fun t428 => (if t428 = true then ((impl_CountSet.f (Int.tmod t421 (shl .i64 1 t407))).bind fun t429 => ((impl_CountSet.f t413).bind fun t430 => (laws_FnCovers.j1 kj6 (Int.tmod t421 (shl .i64 1 t407)) (decide (t429 < t430)) t407 t408))) else (laws_FnCovers.j1 kj6 (Int.tmod t421 (shl .i64 1 t407)) false t407 t408)))))) else (none))) = some r := by rw [if_neg (show ¬ (false = true) by decide)] at H; exact H
          clear H
          have H := H1
          clear H1
          replace H := Option.bind_eq_some_iff.mp H
          obtain ⟨t421, A600, H⟩ := H
          replace H : (if 0 ≤ t407 then (if (shl .i64 1 t407) = 0 then (none) else ((impl_IsIndependent.f kj6 t407 t408 (Int.tmod t421 (shl .i64 1 t407))).bind fun t422 => (if t422 = true then ((impl_CountSet.f (Int.tmod t421 (shl .i64 1 t407))).bind fun t423 => ((impl_CountSet.f t412).bind fun t424 => (if t423 > t424 then (laws_FnCovers.j1 kj6 (Int.tmod t421 (shl .i64 1 t407)) true t407 t408) else ((impl_IsDominating.f kj6 t407 t408 (Int.tmod t421 (shl .i64 1 t407))).bind fun t425 => (if t425 = true then ((impl_CountSet.f (Int.tmod t421 (shl .i64 1 t407))).bind fun t426 => ((impl_CountSet.f t413).bind fun t427 => (laws_FnCovers.j1 kj6 (Int.tmod t421 (shl .i64 1 t407)) (decide (t426 < t427)) t407 t408))) else (laws_FnCovers.j1 kj6 (Int.tmod t421 (shl .i64 1 t407)) false t407 t408)))))) else ((impl_IsDominating.f kj6 t407 t408 (Int.tmod t421 (shl .i64 1 t407))).bind fun t428 => (if t428 = true then ((impl_CountSet.f (Int.tmod t421 (shl .i64 1 t407))).bind fun t429 => ((impl_CountSet.f t413).bind fun t430 => (laws_FnCovers.j1 kj6 (Int.tmod t421 (shl .i64 1 t407)) (decide (t429 < t430)) t407 t408))) else (laws_FnCovers.j1 kj6 (Int.tmod t421 (shl .i64 1 t407)) false t407 t408)))))) else (none)) = some r := H
          have A60 := Aside0.mk A600
          clear A600
          by_cases c61 : 0 ≤ t407
          · rw [if_pos c61] at H
            have c61b0 := eq_true c61
            have c61b1 : decide (0 ≤ t407) = true := decide_eq_true c61
            clear c61
            obtain ⟨ji62, hji62⟩ : ∃ j_ : Int, (shl .i64 1 t407) = j_ := ⟨_, rfl⟩
            replace H : (if (ji62) = 0 then (none) else ((impl_IsIndependent.f kj6 t407 t408 (Int.tmod t421 (ji62))).bind fun t422 => (if t422 = true then ((impl_CountSet.f (Int.tmod t421 (ji62))).bind fun t423 => ((impl_CountSet.f t412).bind fun t424 => (if t423 > t424 then (laws_FnCovers.j1 kj6 (Int.tmod t421 (ji62)) true t407 t408) else ((impl_IsDominating.f kj6 t407 t408 (Int.tmod t421 (ji62))).bind fun t425 => (if t425 = true then ((impl_CountSet.f (Int.tmod t421 (ji62))).bind fun t426 => ((impl_CountSet.f t413).bind fun t427 => (laws_FnCovers.j1 kj6 (Int.tmod t421 (ji62)) (decide (t426 < t427)) t407 t408))) else (laws_FnCovers.j1 kj6 (Int.tmod t421 (ji62)) false t407 t408)))))) else ((impl_IsDominating.f kj6 t407 t408 (Int.tmod t421 (ji62))).bind fun t428 => (if t428 = true then ((impl_CountSet.f (Int.tmod t421 (ji62))).bind fun t429 => ((impl_CountSet.f t413).bind fun t430 => (laws_FnCovers.j1 kj6 (Int.tmod t421 (ji62)) (decide (t429 < t430)) t407 t408))) else (laws_FnCovers.j1 kj6 (Int.tmod t421 (ji62)) false t407 t408)))))) = some r := by first | (rw [hji62] at H; exact H) | (simp only [hji62] at H ⊢; exact H)
            (try rw [hji62] at A60)
            have hji62_ : (IntKind.i64.wrap (1 * 2 ^ min t407.toNat 64)) = ji62 := hji62
            have hji62z : t407 ≤ 64 → (IntKind.i64.wrap (1 * 2 ^ t407.toNat)) = ji62 := shl_small hji62
            have hji62u : (IntKind.i64.wrap (2 ^ min t407.toNat 64)) = ji62 := by have h_ := hji62_; rw [Int.one_mul] at h_; exact h_
            have hji62v : t407 ≤ 64 → (IntKind.i64.wrap (2 ^ t407.toNat)) = ji62 := fun hle_ => by have h_ := hji62z hle_; rw [Int.one_mul] at h_; exact h_
            have hji62y : (wrap64 (1 * 2 ^ min t407.toNat 64)) = ji62 := (i64_w _).symm.trans hji62_
            have hji62x : t407 ≤ 64 → (wrap64 (1 * 2 ^ t407.toNat)) = ji62 := fun h_ => (i64_w _).symm.trans (hji62z h_)
            by_cases c63 : (ji62) = 0
            · rw [if_pos c63] at H
              exact absurd H (by simp)
            · rw [if_neg c63] at H
              have c63b0 : ((ji62) == 0) = false := beq_eq_false_iff_ne.mpr c63
              have c63b1 : ((ji62) != 0) = true := bne_iff_ne.mpr c63
              have HC64 := Aside0.mk H
              clear H
              try go_wp2
              have n0_ := Aside0.mk (Kd.R_drew HO_412001.out)
              have n1_ := Aside0.mk (blk_drew BK411.out)
              have n2_ := Aside0.mk (below_drew1 HB.out)
              clear HO_412001
              clear BK411
              clear HB
              have HO_412001 := n0_
              have BK411 := n1_
              have HB := n2_
              clear n0_ n1_ n2_
              refine start_ (n := 7) (S := fun w' => w'.cell? ⟨gb411, 0, none⟩ = some (.int .i64 t407) ∧ w'.cell? ⟨gb411, 1, none⟩ = some (.slice Ao11 t408.length co11)) (ds := []) #[false, false, false, false, false, false, false] (by kernel_rfl) rfl rfl ⟨(blk_cell BK411.out 0).trans rfl, (blk_cell BK411.out 1).trans rfl⟩ (fun hHeld => ?_)
              generalize wc.drew = w65 at HO_412001 BK411 HB hHeld ⊢
              refine pure_ (i := 0) (N := some 54) (v := ?_) (a' := ?_) #[true, false, false, false, false, false, false] rfl rfl (by kernel_rfl) (fun _ _ _ h => h) (Or.inl ⟨by rfl, ?_⟩) ?_ ?_
              rotate_left
              · intro w'
                go_simp
                with_reducible rfl
              rotate_left
              · simp only [Act.put, List.setIfInBounds_toArray, List.set_cons_zero, List.set_cons_succ, i64_w, i32_w]
                rfl
              refine pure_ (i := 2) (N := some 56) (v := ?_) (a' := ?_) #[true, false, true, false, false, false, false] rfl rfl (by kernel_rfl) (fun _ _ _ h => h) (Or.inl ⟨by rfl, ?_⟩) ?_ ?_
              rotate_left
              · intro w'
                go_simp
                with_reducible rfl
              rotate_left
              · simp only [Act.put, List.setIfInBounds_toArray, List.set_cons_zero, List.set_cons_succ, i64_w, i32_w]
                rfl
              refine take_ (i := 3) (N := some 57) (v := ?_) (a' := ?_) #[true, false, true, true, false, false, false] rfl rfl (by kernel_rfl) (fun _ _ _ h => h) (Or.inl ⟨by rfl, ?_⟩) hHeld ?_ ?_
              rotate_left
              · rintro w' ⟨s0, s1⟩
                go_simp
                with_reducible rfl
              rotate_left
              · simp only [Act.put, List.setIfInBounds_toArray, List.set_cons_zero, List.set_cons_succ, i64_w, i32_w]
                rfl
              refine pure_ (i := 4) (N := some 58) (v := ?_) (a' := ?_) #[true, false, true, true, true, false, false] rfl rfl (by kernel_rfl) (fun _ _ _ h => h) (Or.inl ⟨by rfl, ?_⟩) ?_ ?_
              rotate_left
              · intro w'
                go_simp
                with_reducible rfl
              rotate_left
              · simp only [Act.put, List.setIfInBounds_toArray, List.set_cons_zero, List.set_cons_succ, i64_w, i32_w]
                rfl
              refine one_ (i := 1) (N := some 55) #[true, true, true, true, true, false, false] rfl rfl (by kernel_rfl) (by decide) (fun K hK => ?_)
              refine goes_ Tryd.func26 (by kernel_rfl) rfl #[.slice A0 l0.length c0, .int .i64 30] (by rfl) rfl rfl (by (try simp only [List.map_toArray, List.map_cons, List.map_nil]); first | done | rfl | (simp only [List.length_drop, List.length_take]; rfl)) ?_
              with_reducible refine (spec_MakeNum.calls kj6 _ _ l0 30 t421 _ ?side1 ?side2 A60.out).mono ?_
              (case side1 => repeat (first | exact (Kd.C_below HR0.out HB.out) | (with_reducible refine Kd.C_alloc ?_ _) | (with_reducible refine Kd.C_drewN ?_ _) | (with_reducible refine Kd.C_drew ?_)))
              (case side2 => exact HC0.out)
              rintro e w66 ⟨rfl, hb⟩
              refine ⟨_, rfl, ?_⟩
              have n0_ := Aside0.mk (Kd.R_below (by (with_reducible repeat (first | apply Kd.R_alloc | apply Kd.R_drewN | apply Kd.R_drew)); exact HO_412001.out) hb)
              have n1_ := Aside0.mk (blk_below (g := gb411) (o := .cells #[.int .i64 t407, .slice Ao11 t408.length co11] 27 (0, 0)) (by (with_reducible repeat (first | refine blk_drewN ?_ _ | refine blk_drew ?_ | refine blk_alloc ?_ _)); exact BK411.out) hb)
              have n2_ := Aside0.mk (below_step (by repeat (first | (with_reducible first | exact HB.out | apply below_alloc | apply pw_below_drewN | apply below_drew1 | refine below_set ?_ GE411.out) | exact HB.out)) hb)
              clear HO_412001
              clear BK411
              clear HB
              have HO_412001 := n0_
              have BK411 := n1_
              have HB := n2_
              clear n0_ n1_ n2_
              (try clear hb)
              (try clear hb2)
              (try clear hk)
              (try clear hi)
              refine hK.out _ _ ⟨(blk_cell BK411.out 0).trans rfl, (blk_cell BK411.out 1).trans rfl⟩ (fun hHeld => ?_)
              clear hK K
              refine norm_ (a' := ?_) ?_ ?_
              rotate_left
              · show Act.put _ (some 55) _ = _
                simp only [Act.put, List.setIfInBounds_toArray, List.set_cons_zero, List.set_cons_succ, i64_w, i32_w]
                rfl
              refine pure_ (i := 5) (N := some 59) (v := ?_) (a' := ?_) #[true, true, true, true, true, true, false] rfl rfl (by kernel_rfl) (fun _ _ _ h => h) (Or.inl ⟨by rfl, ?_⟩) ?_ ?_
              rotate_left
              · intro w'
                go_simp
                with_reducible rfl
              rotate_left
              · simp only [Act.put, List.setIfInBounds_toArray, List.set_cons_zero, List.set_cons_succ, i64_w, i32_w]
                rfl
              refine pure_ (i := 6) (N := some 7) (v := ?_) (a' := ?_) #[true, true, true, true, true, true, true] rfl rfl (by kernel_rfl) (fun _ _ _ h => h) (Or.inl ⟨by rfl, ?_⟩) ?_ ?_
              rotate_left
              · intro w'
                go_simp
                with_reducible rfl
              rotate_left
              · simp only [Act.put, List.setIfInBounds_toArray, List.set_cons_zero, List.set_cons_succ, i64_w, i32_w]
                rfl
              refine done_ (by kernel_rfl) ?_
              go_upto_region 10 with (fail)
              go_cut [81] (fun v81 wc => ∃ (kq : Nat) (x81_63 : Bool), v81 = .bool x81_63 ∧ Aside0 (laws_FnCovers.j1 kq (Int.tmod t421 (ji62)) x81_63 t407 t408 = some r) ∧ Aside0 (kq ≤ kj6) ∧ Aside0 (Kd.R (Kd.int .i64) 3 wc w.heap.size (fun _ => True) (.slice Ao11 t408.length co11) t408) ∧ Aside0 (wc.heap[gb411]? = some (.cells #[.int .i64 t407, (.slice Ao11 t408.length co11)] 27 (0, 0))) ∧ Aside0 (Below w.heap.size w wc))
              case first =>
                have H := HC64.out
                clear HC64
                replace H := Option.bind_eq_some_iff.mp H
                obtain ⟨t422, A670, H⟩ := H
                replace H : (if t422 = true then ((impl_CountSet.f (Int.tmod t421 (ji62))).bind fun t423 => ((impl_CountSet.f t412).bind fun t424 => (if t423 > t424 then (laws_FnCovers.j1 kj6 (Int.tmod t421 (ji62)) true t407 t408) else ((impl_IsDominating.f kj6 t407 t408 (Int.tmod t421 (ji62))).bind fun t425 => (if t425 = true then ((impl_CountSet.f (Int.tmod t421 (ji62))).bind fun t426 => ((impl_CountSet.f t413).bind fun t427 => (laws_FnCovers.j1 kj6 (Int.tmod t421 (ji62)) (decide (t426 < t427)) t407 t408))) else (laws_FnCovers.j1 kj6 (Int.tmod t421 (ji62)) false t407 t408)))))) else ((impl_IsDominating.f kj6 t407 t408 (Int.tmod t421 (ji62))).bind fun t428 => (if t428 = true then ((impl_CountSet.f (Int.tmod t421 (ji62))).bind fun t429 => ((impl_CountSet.f t413).bind fun t430 => (laws_FnCovers.j1 kj6 (Int.tmod t421 (ji62)) (decide (t429 < t430)) t407 t408))) else (laws_FnCovers.j1 kj6 (Int.tmod t421 (ji62)) false t407 t408)))) = some r := H
                have A67 := Aside0.mk A670
                clear A670
                by_cases c68 : t422 = true
                · subst c68
                  have H1 : ((impl_CountSet.f (Int.tmod t421 (ji62))).bind fun t423 => ((impl_CountSet.f t412).bind fun t424 => (if t423 > t424 then (laws_FnCovers.j1 kj6 (Int.tmod t421 (ji62)) true t407 t408) else ((impl_IsDominating.f kj6 t407 t408 (Int.tmod t421 (ji62))).bind fun t425 => (if t425 = true then ((impl_CountSet.f (Int.tmod t421 (ji62))).bind fun t426 => ((impl_CountSet.f t413).bind fun t427 => (laws_FnCovers.j1 kj6 (Int.tmod t421 (ji62)) (decide (t426 < t427)) t407 t408))) else (laws_FnCovers.j1 kj6 (Int.tmod t421 (ji62)) false t407 t408)))))) = some r := by rw [if_pos rfl] at H; exact H
                  clear H
                  have H := H1
                  clear H1
                  replace H := Option.bind_eq_some_iff.mp H
                  obtain ⟨t423, A690, H⟩ := H
                  replace H : ((impl_CountSet.f t412).bind fun t424 => (if t423 > t424 then (laws_FnCovers.j1 kj6 (Int.tmod t421 (ji62)) true t407 t408) else ((impl_IsDominating.f kj6 t407 t408 (Int.tmod t421 (ji62))).bind fun t425 => (if t425 = true then ((impl_CountSet.f (Int.tmod t421 (ji62))).bind fun t426 => ((impl_CountSet.f t413).bind fun t427 => (laws_FnCovers.j1 kj6 (Int.tmod t421 (ji62)) (decide (t426 < t427)) t407 t408))) else (laws_FnCovers.j1 kj6 (Int.tmod t421 (ji62)) false t407 t408))))) = some r := H
                  have A69 := Aside0.mk A690
                  clear A690
                  replace H := Option.bind_eq_some_iff.mp H
                  obtain ⟨t424, A700, H⟩ := H
                  replace H : (if t423 > t424 then (laws_FnCovers.j1 kj6 (Int.tmod t421 (ji62)) true t407 t408) else ((impl_IsDominating.f kj6 t407 t408 (Int.tmod t421 (ji62))).bind fun t425 => (if t425 = true then ((impl_CountSet.f (Int.tmod t421 (ji62))).bind fun t426 => ((impl_CountSet.f t413).bind fun t427 => (laws_FnCovers.j1 kj6 (Int.tmod t421 (ji62)) (decide (t426 < t427)) t407 t408))) else (laws_FnCovers.j1 kj6 (Int.tmod t421 (ji62)) false t407 t408)))) = some r := H
                  have A70 := Aside0.mk A700
                  clear A700
                  by_cases c71 : t423 > t424
                  · rw [if_pos c71] at H
                    have c71b0 : decide (t424 < t423) = true := decide_eq_true c71
                    clear c71
                    (first | rw [c71b0] | (simp only [i64_w, i32_w]; rw [c71b0]) | skip)
                    have H' := Aside0.mk H
                    clear H
                    have hcz72_0 : w66.cell? ⟨gb411, 0, none⟩ = some (.int .i64 t407) := (blk_cell BK411.out 0).trans rfl
                    have hcz72_1 : w66.cell? ⟨gb411, 1, none⟩ = some (.slice Ao11 t408.length co11) := (blk_cell BK411.out 1).trans rfl
                    have hfz72_0 := blk_frozen BK411.out 0
                    have hfz72_1 := blk_frozen BK411.out 1
                    go_wp2_with (first | ((with_reducible refine gate_callee (f := 23) rfl ?_); refine goesL_ (some 62) rfl rfl Tryd.func23 (by kernel_rfl) rfl #[.agg #[.int .i64 t407, .slice Ao11 t408.length co11], .int .i64 (Int.tmod t421 (ji62))] rfl (by (try simp only [List.map_toArray, List.map_cons, List.map_nil]); first | done | (simp only [hji62]; rfl) | rfl | (simp only [List.length_drop, List.length_take]; rfl)) ?_; (with_reducible refine (impl_IsIndependent.calls kj6 t407 _ _ t408 (Int.tmod t421 (ji62)) true _ ?side1 ?side2 A67.out).mono ?_); (case side1 => repeat (first | exact (Kd.R_reads' HO_412001.out).2.2 | (with_reducible refine Kd.C_alloc ?_ _) | (with_reducible refine Kd.C_drewN ?_ _) | (with_reducible refine Kd.C_drew ?_))); (case side2 => exact (Kd.R_reads' HO_412001.out).2.1); rintro e w73 ⟨rfl, hb⟩; refine ⟨_, rfl, ?_⟩; have n0_ := Aside0.mk (Kd.R_below (by (with_reducible repeat (first | apply Kd.R_alloc | apply Kd.R_drewN | apply Kd.R_drew)); exact HO_412001.out) hb); have n1_ := Aside0.mk (blk_below (g := gb411) (o := .cells #[.int .i64 t407, .slice Ao11 t408.length co11] 27 (0, 0)) (by (with_reducible repeat (first | refine blk_drewN ?_ _ | refine blk_drew ?_ | refine blk_alloc ?_ _)); exact BK411.out) hb); have n2_ := Aside0.mk (below_step (by repeat (first | (with_reducible first | exact HB.out | apply below_alloc | apply pw_below_drewN | apply below_drew1 | refine below_set ?_ GE411.out) | exact HB.out)) hb); clear HO_412001; clear BK411; clear HB; have HO_412001 := n0_; have BK411 := n1_; have HB := n2_; clear n0_ n1_ n2_; (try clear hb); (try clear hb2); (try clear hk); (try clear hi)) | (go_at_call 25; (with_reducible refine (impl_CountSet.calls (Int.tmod t421 (ji62)) t423 _ A69.out).mono ?_); rintro e w' ⟨rfl, ⟨nd, rfl⟩⟩) | (go_at_call 25; (with_reducible refine (impl_CountSet.calls t412 t424 _ A70.out).mono ?_); rintro e w' ⟨rfl, ⟨nd, rfl⟩⟩))
                    go_meet
                    case rel => exact ⟨_, (true), (by first | rfl | (simp; done) | (simp [*]; done)), H', ⟨by have := HJ6.out; first | omega | exact Nat.le_refl _⟩, ⟨by (with_reducible repeat (first | apply Kd.R_alloc | apply Kd.R_drewN | apply Kd.R_drew)); exact HO_412001.out⟩, ⟨by (with_reducible repeat (first | refine blk_drewN ?_ _ | refine blk_drew ?_ | refine blk_alloc ?_ _)); exact BK411.out⟩, ⟨by repeat (first | (with_reducible first | exact HB.out | apply below_alloc | apply pw_below_drewN | apply below_drew1 | refine below_set ?_ GE411.out) | exact HB.out)⟩⟩
                  · rw [if_neg c71] at H
                    have c71b0 : decide (t424 < t423) = false := decide_eq_false c71
                    clear c71
                    (first | rw [c71b0] | (simp only [i64_w, i32_w]; rw [c71b0]) | skip)
                    replace H := Option.bind_eq_some_iff.mp H
                    obtain ⟨t425, A740, H⟩ := H
                    replace H : (if t425 = true then ((impl_CountSet.f (Int.tmod t421 (ji62))).bind fun t426 => ((impl_CountSet.f t413).bind fun t427 => (laws_FnCovers.j1 kj6 (Int.tmod t421 (ji62)) (decide (t426 < t427)) t407 t408))) else (laws_FnCovers.j1 kj6 (Int.tmod t421 (ji62)) false t407 t408)) = some r := H
                    have A74 := Aside0.mk A740
                    clear A740
                    by_cases c75 : t425 = true
                    · subst c75
                      have H1 : ((impl_CountSet.f (Int.tmod t421 (ji62))).bind fun t426 => ((impl_CountSet.f t413).bind fun t427 => (laws_FnCovers.j1 kj6 (Int.tmod t421 (ji62)) (decide (t426 < t427)) t407 t408))) = some r := by rw [if_pos rfl] at H; exact H
                      clear H
                      have H := H1
                      clear H1
                      replace H := Option.bind_eq_some_iff.mp H
                      obtain ⟨t426, A760, H⟩ := H
                      replace H : ((impl_CountSet.f t413).bind fun t427 => (laws_FnCovers.j1 kj6 (Int.tmod t421 (ji62)) (decide (t426 < t427)) t407 t408)) = some r := H
                      have A76 := Aside0.mk A760
                      clear A760
                      replace H := Option.bind_eq_some_iff.mp H
                      obtain ⟨t427, A770, H⟩ := H
                      replace H : (laws_FnCovers.j1 kj6 (Int.tmod t421 (ji62)) (decide (t426 < t427)) t407 t408) = some r := H
                      have A77 := Aside0.mk A770
                      have eq426_ : t426 = t423 := Option.some.inj (A76.out.symm.trans A69.out)
                      clear A770
                      have H' := Aside0.mk H
                      clear H
                      have hcz78_0 : w66.cell? ⟨gb411, 0, none⟩ = some (.int .i64 t407) := (blk_cell BK411.out 0).trans rfl
                      have hcz78_1 : w66.cell? ⟨gb411, 1, none⟩ = some (.slice Ao11 t408.length co11) := (blk_cell BK411.out 1).trans rfl
                      have hfz78_0 := blk_frozen BK411.out 0
                      have hfz78_1 := blk_frozen BK411.out 1
                      go_wp2_with (first | ((with_reducible refine gate_callee (f := 23) rfl ?_); refine goesL_ (some 62) rfl rfl Tryd.func23 (by kernel_rfl) rfl #[.agg #[.int .i64 t407, .slice Ao11 t408.length co11], .int .i64 (Int.tmod t421 (ji62))] rfl (by (try simp only [List.map_toArray, List.map_cons, List.map_nil]); first | done | (simp only [hji62]; rfl) | rfl | (simp only [List.length_drop, List.length_take]; rfl)) ?_; (with_reducible refine (impl_IsIndependent.calls kj6 t407 _ _ t408 (Int.tmod t421 (ji62)) true _ ?side1 ?side2 A67.out).mono ?_); (case side1 => repeat (first | exact (Kd.R_reads' HO_412001.out).2.2 | (with_reducible refine Kd.C_alloc ?_ _) | (with_reducible refine Kd.C_drewN ?_ _) | (with_reducible refine Kd.C_drew ?_))); (case side2 => exact (Kd.R_reads' HO_412001.out).2.1); rintro e w79 ⟨rfl, hb⟩; refine ⟨_, rfl, ?_⟩; have n0_ := Aside0.mk (Kd.R_below (by (with_reducible repeat (first | apply Kd.R_alloc | apply Kd.R_drewN | apply Kd.R_drew)); exact HO_412001.out) hb); have n1_ := Aside0.mk (blk_below (g := gb411) (o := .cells #[.int .i64 t407, .slice Ao11 t408.length co11] 27 (0, 0)) (by (with_reducible repeat (first | refine blk_drewN ?_ _ | refine blk_drew ?_ | refine blk_alloc ?_ _)); exact BK411.out) hb); have n2_ := Aside0.mk (below_step (by repeat (first | (with_reducible first | exact HB.out | apply below_alloc | apply pw_below_drewN | apply below_drew1 | refine below_set ?_ GE411.out) | exact HB.out)) hb); clear HO_412001; clear BK411; clear HB; have HO_412001 := n0_; have BK411 := n1_; have HB := n2_; clear n0_ n1_ n2_; (try clear hb); (try clear hb2); (try clear hk); (try clear hi)) | (go_at_call 25; (with_reducible refine (impl_CountSet.calls (Int.tmod t421 (ji62)) t423 _ A69.out).mono ?_); rintro e w' ⟨rfl, ⟨nd, rfl⟩⟩) | (go_at_call 25; (with_reducible refine (impl_CountSet.calls t412 t424 _ A70.out).mono ?_); rintro e w' ⟨rfl, ⟨nd, rfl⟩⟩; have hcz80_0 : w79.cell? ⟨gb411, 0, none⟩ = some (.int .i64 t407) := (blk_cell BK411.out 0).trans rfl; have hcz80_1 : w79.cell? ⟨gb411, 1, none⟩ = some (.slice Ao11 t408.length co11) := (blk_cell BK411.out 1).trans rfl; have hfz80_0 := blk_frozen BK411.out 0; have hfz80_1 := blk_frozen BK411.out 1) | (go_at_call 24; (with_reducible refine (impl_IsDominating.calls kj6 t407 _ _ t408 (Int.tmod t421 (ji62)) true _ ?side1 ?side2 A74.out).mono ?_); (case side1 => repeat (first | exact (Kd.R_reads' HO_412001.out).2.2 | (with_reducible refine Kd.C_alloc ?_ _) | (with_reducible refine Kd.C_drewN ?_ _) | (with_reducible refine Kd.C_drew ?_))); (case side2 => exact (Kd.R_reads' HO_412001.out).2.1); rintro e w81 ⟨rfl, hb⟩; have n0_ := Aside0.mk (Kd.R_below (by (with_reducible repeat (first | apply Kd.R_alloc | apply Kd.R_drewN | apply Kd.R_drew)); exact HO_412001.out) hb); have n1_ := Aside0.mk (blk_below (g := gb411) (o := .cells #[.int .i64 t407, .slice Ao11 t408.length co11] 27 (0, 0)) (by (with_reducible repeat (first | refine blk_drewN ?_ _ | refine blk_drew ?_ | refine blk_alloc ?_ _)); exact BK411.out) hb); have n2_ := Aside0.mk (below_step (by repeat (first | (with_reducible first | exact HB.out | apply below_alloc | apply pw_below_drewN | apply below_drew1 | refine below_set ?_ GE411.out) | exact HB.out)) hb); clear HO_412001; clear BK411; clear HB; have HO_412001 := n0_; have BK411 := n1_; have HB := n2_; clear n0_ n1_ n2_; (try clear hb); (try clear hb2); (try clear hk); (try clear hi)) | (go_at_call 25; (with_reducible refine (impl_CountSet.calls (Int.tmod t421 (ji62)) t426 _ A76.out).mono ?_); rintro e w' ⟨rfl, ⟨nd, rfl⟩⟩) | (go_at_call 25; (with_reducible refine (impl_CountSet.calls t413 t427 _ A77.out).mono ?_); rintro e w' ⟨rfl, ⟨nd, rfl⟩⟩))
                      go_meet
                      case rel => exact ⟨_, (decide (t426 < t427)), (by first | rfl | (simp; done) | (simp [*]; done)), H', ⟨by have := HJ6.out; first | omega | exact Nat.le_refl _⟩, ⟨by (with_reducible repeat (first | apply Kd.R_alloc | apply Kd.R_drewN | apply Kd.R_drew)); exact HO_412001.out⟩, ⟨by (with_reducible repeat (first | refine blk_drewN ?_ _ | refine blk_drew ?_ | refine blk_alloc ?_ _)); exact BK411.out⟩, ⟨by repeat (first | (with_reducible first | exact HB.out | apply below_alloc | apply pw_below_drewN | apply below_drew1 | refine below_set ?_ GE411.out) | exact HB.out)⟩⟩
                    · replace c75 := Bool.eq_false_iff.mpr c75
                      subst c75
                      have H1 : (laws_FnCovers.j1 kj6 (Int.tmod t421 (ji62)) false t407 t408) = some r := by rw [if_neg (show ¬ (false = true) by decide)] at H; exact H
                      clear H
                      have H := H1
                      clear H1
                      have H' := Aside0.mk H
                      clear H
                      have hcz82_0 : w66.cell? ⟨gb411, 0, none⟩ = some (.int .i64 t407) := (blk_cell BK411.out 0).trans rfl
                      have hcz82_1 : w66.cell? ⟨gb411, 1, none⟩ = some (.slice Ao11 t408.length co11) := (blk_cell BK411.out 1).trans rfl
                      have hfz82_0 := blk_frozen BK411.out 0
                      have hfz82_1 := blk_frozen BK411.out 1
                      go_wp2_with (first | ((with_reducible refine gate_callee (f := 23) rfl ?_); refine goesL_ (some 62) rfl rfl Tryd.func23 (by kernel_rfl) rfl #[.agg #[.int .i64 t407, .slice Ao11 t408.length co11], .int .i64 (Int.tmod t421 (ji62))] rfl (by (try simp only [List.map_toArray, List.map_cons, List.map_nil]); first | done | (simp only [hji62]; rfl) | rfl | (simp only [List.length_drop, List.length_take]; rfl)) ?_; (with_reducible refine (impl_IsIndependent.calls kj6 t407 _ _ t408 (Int.tmod t421 (ji62)) true _ ?side1 ?side2 A67.out).mono ?_); (case side1 => repeat (first | exact (Kd.R_reads' HO_412001.out).2.2 | (with_reducible refine Kd.C_alloc ?_ _) | (with_reducible refine Kd.C_drewN ?_ _) | (with_reducible refine Kd.C_drew ?_))); (case side2 => exact (Kd.R_reads' HO_412001.out).2.1); rintro e w83 ⟨rfl, hb⟩; refine ⟨_, rfl, ?_⟩; have n0_ := Aside0.mk (Kd.R_below (by (with_reducible repeat (first | apply Kd.R_alloc | apply Kd.R_drewN | apply Kd.R_drew)); exact HO_412001.out) hb); have n1_ := Aside0.mk (blk_below (g := gb411) (o := .cells #[.int .i64 t407, .slice Ao11 t408.length co11] 27 (0, 0)) (by (with_reducible repeat (first | refine blk_drewN ?_ _ | refine blk_drew ?_ | refine blk_alloc ?_ _)); exact BK411.out) hb); have n2_ := Aside0.mk (below_step (by repeat (first | (with_reducible first | exact HB.out | apply below_alloc | apply pw_below_drewN | apply below_drew1 | refine below_set ?_ GE411.out) | exact HB.out)) hb); clear HO_412001; clear BK411; clear HB; have HO_412001 := n0_; have BK411 := n1_; have HB := n2_; clear n0_ n1_ n2_; (try clear hb); (try clear hb2); (try clear hk); (try clear hi)) | (go_at_call 25; (with_reducible refine (impl_CountSet.calls (Int.tmod t421 (ji62)) t423 _ A69.out).mono ?_); rintro e w' ⟨rfl, ⟨nd, rfl⟩⟩) | (go_at_call 25; (with_reducible refine (impl_CountSet.calls t412 t424 _ A70.out).mono ?_); rintro e w' ⟨rfl, ⟨nd, rfl⟩⟩; have hcz84_0 : w83.cell? ⟨gb411, 0, none⟩ = some (.int .i64 t407) := (blk_cell BK411.out 0).trans rfl; have hcz84_1 : w83.cell? ⟨gb411, 1, none⟩ = some (.slice Ao11 t408.length co11) := (blk_cell BK411.out 1).trans rfl; have hfz84_0 := blk_frozen BK411.out 0; have hfz84_1 := blk_frozen BK411.out 1) | (go_at_call 24; (with_reducible refine (impl_IsDominating.calls kj6 t407 _ _ t408 (Int.tmod t421 (ji62)) false _ ?side1 ?side2 A74.out).mono ?_); (case side1 => repeat (first | exact (Kd.R_reads' HO_412001.out).2.2 | (with_reducible refine Kd.C_alloc ?_ _) | (with_reducible refine Kd.C_drewN ?_ _) | (with_reducible refine Kd.C_drew ?_))); (case side2 => exact (Kd.R_reads' HO_412001.out).2.1); rintro e w85 ⟨rfl, hb⟩; have n0_ := Aside0.mk (Kd.R_below (by (with_reducible repeat (first | apply Kd.R_alloc | apply Kd.R_drewN | apply Kd.R_drew)); exact HO_412001.out) hb); have n1_ := Aside0.mk (blk_below (g := gb411) (o := .cells #[.int .i64 t407, .slice Ao11 t408.length co11] 27 (0, 0)) (by (with_reducible repeat (first | refine blk_drewN ?_ _ | refine blk_drew ?_ | refine blk_alloc ?_ _)); exact BK411.out) hb); have n2_ := Aside0.mk (below_step (by repeat (first | (with_reducible first | exact HB.out | apply below_alloc | apply pw_below_drewN | apply below_drew1 | refine below_set ?_ GE411.out) | exact HB.out)) hb); clear HO_412001; clear BK411; clear HB; have HO_412001 := n0_; have BK411 := n1_; have HB := n2_; clear n0_ n1_ n2_; (try clear hb); (try clear hb2); (try clear hk); (try clear hi)))
                      go_meet
                      case rel => exact ⟨_, (false), (by first | rfl | (simp; done) | (simp [*]; done)), H', ⟨by have := HJ6.out; first | omega | exact Nat.le_refl _⟩, ⟨by (with_reducible repeat (first | apply Kd.R_alloc | apply Kd.R_drewN | apply Kd.R_drew)); exact HO_412001.out⟩, ⟨by (with_reducible repeat (first | refine blk_drewN ?_ _ | refine blk_drew ?_ | refine blk_alloc ?_ _)); exact BK411.out⟩, ⟨by repeat (first | (with_reducible first | exact HB.out | apply below_alloc | apply pw_below_drewN | apply below_drew1 | refine below_set ?_ GE411.out) | exact HB.out)⟩⟩
                · replace c68 := Bool.eq_false_iff.mpr c68
                  subst c68
                  have H1 : ((impl_IsDominating.f kj6 t407 t408 (Int.tmod t421 (ji62))).bind fun t428 => (if t428 = true then ((impl_CountSet.f (Int.tmod t421 (ji62))).bind fun t429 => ((impl_CountSet.f t413).bind fun t430 => (laws_FnCovers.j1 kj6 (Int.tmod t421 (ji62)) (decide (t429 < t430)) t407 t408))) else (laws_FnCovers.j1 kj6 (Int.tmod t421 (ji62)) false t407 t408))) = some r := by rw [if_neg (show ¬ (false = true) by decide)] at H; exact H
                  clear H
                  have H := H1
                  clear H1
                  replace H := Option.bind_eq_some_iff.mp H
                  obtain ⟨t428, A860, H⟩ := H
                  replace H : (if t428 = true then ((impl_CountSet.f (Int.tmod t421 (ji62))).bind fun t429 => ((impl_CountSet.f t413).bind fun t430 => (laws_FnCovers.j1 kj6 (Int.tmod t421 (ji62)) (decide (t429 < t430)) t407 t408))) else (laws_FnCovers.j1 kj6 (Int.tmod t421 (ji62)) false t407 t408)) = some r := H
                  have A86 := Aside0.mk A860
                  clear A860
                  by_cases c87 : t428 = true
                  · subst c87
                    have H1 : ((impl_CountSet.f (Int.tmod t421 (ji62))).bind fun t429 => ((impl_CountSet.f t413).bind fun t430 => (laws_FnCovers.j1 kj6 (Int.tmod t421 (ji62)) (decide (t429 < t430)) t407 t408))) = some r := by rw [if_pos rfl] at H; exact H
                    clear H
                    have H := H1
                    clear H1
                    replace H := Option.bind_eq_some_iff.mp H
                    obtain ⟨t429, A880, H⟩ := H
                    replace H : ((impl_CountSet.f t413).bind fun t430 => (laws_FnCovers.j1 kj6 (Int.tmod t421 (ji62)) (decide (t429 < t430)) t407 t408)) = some r := H
                    have A88 := Aside0.mk A880
                    clear A880
                    replace H := Option.bind_eq_some_iff.mp H
                    obtain ⟨t430, A890, H⟩ := H
                    replace H : (laws_FnCovers.j1 kj6 (Int.tmod t421 (ji62)) (decide (t429 < t430)) t407 t408) = some r := H
                    have A89 := Aside0.mk A890
                    clear A890
                    have H' := Aside0.mk H
                    clear H
                    have hcz90_0 : w66.cell? ⟨gb411, 0, none⟩ = some (.int .i64 t407) := (blk_cell BK411.out 0).trans rfl
                    have hcz90_1 : w66.cell? ⟨gb411, 1, none⟩ = some (.slice Ao11 t408.length co11) := (blk_cell BK411.out 1).trans rfl
                    have hfz90_0 := blk_frozen BK411.out 0
                    have hfz90_1 := blk_frozen BK411.out 1
                    go_wp2_with (first | ((with_reducible refine gate_callee (f := 23) rfl ?_); refine goesL_ (some 62) rfl rfl Tryd.func23 (by kernel_rfl) rfl #[.agg #[.int .i64 t407, .slice Ao11 t408.length co11], .int .i64 (Int.tmod t421 (ji62))] rfl (by (try simp only [List.map_toArray, List.map_cons, List.map_nil]); first | done | (simp only [hji62]; rfl) | rfl | (simp only [List.length_drop, List.length_take]; rfl)) ?_; (with_reducible refine (impl_IsIndependent.calls kj6 t407 _ _ t408 (Int.tmod t421 (ji62)) false _ ?side1 ?side2 A67.out).mono ?_); (case side1 => repeat (first | exact (Kd.R_reads' HO_412001.out).2.2 | (with_reducible refine Kd.C_alloc ?_ _) | (with_reducible refine Kd.C_drewN ?_ _) | (with_reducible refine Kd.C_drew ?_))); (case side2 => exact (Kd.R_reads' HO_412001.out).2.1); rintro e w91 ⟨rfl, hb⟩; refine ⟨_, rfl, ?_⟩; have n0_ := Aside0.mk (Kd.R_below (by (with_reducible repeat (first | apply Kd.R_alloc | apply Kd.R_drewN | apply Kd.R_drew)); exact HO_412001.out) hb); have n1_ := Aside0.mk (blk_below (g := gb411) (o := .cells #[.int .i64 t407, .slice Ao11 t408.length co11] 27 (0, 0)) (by (with_reducible repeat (first | refine blk_drewN ?_ _ | refine blk_drew ?_ | refine blk_alloc ?_ _)); exact BK411.out) hb); have n2_ := Aside0.mk (below_step (by repeat (first | (with_reducible first | exact HB.out | apply below_alloc | apply pw_below_drewN | apply below_drew1 | refine below_set ?_ GE411.out) | exact HB.out)) hb); clear HO_412001; clear BK411; clear HB; have HO_412001 := n0_; have BK411 := n1_; have HB := n2_; clear n0_ n1_ n2_; (try clear hb); (try clear hb2); (try clear hk); (try clear hi); have hcz92_0 : w91.cell? ⟨gb411, 0, none⟩ = some (.int .i64 t407) := (blk_cell BK411.out 0).trans rfl; have hcz92_1 : w91.cell? ⟨gb411, 1, none⟩ = some (.slice Ao11 t408.length co11) := (blk_cell BK411.out 1).trans rfl; have hfz92_0 := blk_frozen BK411.out 0; have hfz92_1 := blk_frozen BK411.out 1) | (go_at_call 24; (with_reducible refine (impl_IsDominating.calls kj6 t407 _ _ t408 (Int.tmod t421 (ji62)) true _ ?side1 ?side2 A86.out).mono ?_); (case side1 => repeat (first | exact (Kd.R_reads' HO_412001.out).2.2 | (with_reducible refine Kd.C_alloc ?_ _) | (with_reducible refine Kd.C_drewN ?_ _) | (with_reducible refine Kd.C_drew ?_))); (case side2 => exact (Kd.R_reads' HO_412001.out).2.1); rintro e w93 ⟨rfl, hb⟩; have n0_ := Aside0.mk (Kd.R_below (by (with_reducible repeat (first | apply Kd.R_alloc | apply Kd.R_drewN | apply Kd.R_drew)); exact HO_412001.out) hb); have n1_ := Aside0.mk (blk_below (g := gb411) (o := .cells #[.int .i64 t407, .slice Ao11 t408.length co11] 27 (0, 0)) (by (with_reducible repeat (first | refine blk_drewN ?_ _ | refine blk_drew ?_ | refine blk_alloc ?_ _)); exact BK411.out) hb); have n2_ := Aside0.mk (below_step (by repeat (first | (with_reducible first | exact HB.out | apply below_alloc | apply pw_below_drewN | apply below_drew1 | refine below_set ?_ GE411.out) | exact HB.out)) hb); clear HO_412001; clear BK411; clear HB; have HO_412001 := n0_; have BK411 := n1_; have HB := n2_; clear n0_ n1_ n2_; (try clear hb); (try clear hb2); (try clear hk); (try clear hi)) | (go_at_call 25; (with_reducible refine (impl_CountSet.calls (Int.tmod t421 (ji62)) t429 _ A88.out).mono ?_); rintro e w' ⟨rfl, ⟨nd, rfl⟩⟩) | (go_at_call 25; (with_reducible refine (impl_CountSet.calls t413 t430 _ A89.out).mono ?_); rintro e w' ⟨rfl, ⟨nd, rfl⟩⟩))
                    go_meet
                    case rel => exact ⟨_, (decide (t429 < t430)), (by first | rfl | (simp; done) | (simp [*]; done)), H', ⟨by have := HJ6.out; first | omega | exact Nat.le_refl _⟩, ⟨by (with_reducible repeat (first | apply Kd.R_alloc | apply Kd.R_drewN | apply Kd.R_drew)); exact HO_412001.out⟩, ⟨by (with_reducible repeat (first | refine blk_drewN ?_ _ | refine blk_drew ?_ | refine blk_alloc ?_ _)); exact BK411.out⟩, ⟨by repeat (first | (with_reducible first | exact HB.out | apply below_alloc | apply pw_below_drewN | apply below_drew1 | refine below_set ?_ GE411.out) | exact HB.out)⟩⟩
                  · replace c87 := Bool.eq_false_iff.mpr c87
                    subst c87
                    have H1 : (laws_FnCovers.j1 kj6 (Int.tmod t421 (ji62)) false t407 t408) = some r := by rw [if_neg (show ¬ (false = true) by decide)] at H; exact H
                    clear H
                    have H := H1
                    clear H1
                    have H' := Aside0.mk H
                    clear H
                    have hcz94_0 : w66.cell? ⟨gb411, 0, none⟩ = some (.int .i64 t407) := (blk_cell BK411.out 0).trans rfl
                    have hcz94_1 : w66.cell? ⟨gb411, 1, none⟩ = some (.slice Ao11 t408.length co11) := (blk_cell BK411.out 1).trans rfl
                    have hfz94_0 := blk_frozen BK411.out 0
                    have hfz94_1 := blk_frozen BK411.out 1
                    go_wp2_with (first | ((with_reducible refine gate_callee (f := 23) rfl ?_); refine goesL_ (some 62) rfl rfl Tryd.func23 (by kernel_rfl) rfl #[.agg #[.int .i64 t407, .slice Ao11 t408.length co11], .int .i64 (Int.tmod t421 (ji62))] rfl (by (try simp only [List.map_toArray, List.map_cons, List.map_nil]); first | done | (simp only [hji62]; rfl) | rfl | (simp only [List.length_drop, List.length_take]; rfl)) ?_; (with_reducible refine (impl_IsIndependent.calls kj6 t407 _ _ t408 (Int.tmod t421 (ji62)) false _ ?side1 ?side2 A67.out).mono ?_); (case side1 => repeat (first | exact (Kd.R_reads' HO_412001.out).2.2 | (with_reducible refine Kd.C_alloc ?_ _) | (with_reducible refine Kd.C_drewN ?_ _) | (with_reducible refine Kd.C_drew ?_))); (case side2 => exact (Kd.R_reads' HO_412001.out).2.1); rintro e w95 ⟨rfl, hb⟩; refine ⟨_, rfl, ?_⟩; have n0_ := Aside0.mk (Kd.R_below (by (with_reducible repeat (first | apply Kd.R_alloc | apply Kd.R_drewN | apply Kd.R_drew)); exact HO_412001.out) hb); have n1_ := Aside0.mk (blk_below (g := gb411) (o := .cells #[.int .i64 t407, .slice Ao11 t408.length co11] 27 (0, 0)) (by (with_reducible repeat (first | refine blk_drewN ?_ _ | refine blk_drew ?_ | refine blk_alloc ?_ _)); exact BK411.out) hb); have n2_ := Aside0.mk (below_step (by repeat (first | (with_reducible first | exact HB.out | apply below_alloc | apply pw_below_drewN | apply below_drew1 | refine below_set ?_ GE411.out) | exact HB.out)) hb); clear HO_412001; clear BK411; clear HB; have HO_412001 := n0_; have BK411 := n1_; have HB := n2_; clear n0_ n1_ n2_; (try clear hb); (try clear hb2); (try clear hk); (try clear hi); have hcz96_0 : w95.cell? ⟨gb411, 0, none⟩ = some (.int .i64 t407) := (blk_cell BK411.out 0).trans rfl; have hcz96_1 : w95.cell? ⟨gb411, 1, none⟩ = some (.slice Ao11 t408.length co11) := (blk_cell BK411.out 1).trans rfl; have hfz96_0 := blk_frozen BK411.out 0; have hfz96_1 := blk_frozen BK411.out 1) | (go_at_call 24; (with_reducible refine (impl_IsDominating.calls kj6 t407 _ _ t408 (Int.tmod t421 (ji62)) false _ ?side1 ?side2 A86.out).mono ?_); (case side1 => repeat (first | exact (Kd.R_reads' HO_412001.out).2.2 | (with_reducible refine Kd.C_alloc ?_ _) | (with_reducible refine Kd.C_drewN ?_ _) | (with_reducible refine Kd.C_drew ?_))); (case side2 => exact (Kd.R_reads' HO_412001.out).2.1); rintro e w97 ⟨rfl, hb⟩; have n0_ := Aside0.mk (Kd.R_below (by (with_reducible repeat (first | apply Kd.R_alloc | apply Kd.R_drewN | apply Kd.R_drew)); exact HO_412001.out) hb); have n1_ := Aside0.mk (blk_below (g := gb411) (o := .cells #[.int .i64 t407, .slice Ao11 t408.length co11] 27 (0, 0)) (by (with_reducible repeat (first | refine blk_drewN ?_ _ | refine blk_drew ?_ | refine blk_alloc ?_ _)); exact BK411.out) hb); have n2_ := Aside0.mk (below_step (by repeat (first | (with_reducible first | exact HB.out | apply below_alloc | apply pw_below_drewN | apply below_drew1 | refine below_set ?_ GE411.out) | exact HB.out)) hb); clear HO_412001; clear BK411; clear HB; have HO_412001 := n0_; have BK411 := n1_; have HB := n2_; clear n0_ n1_ n2_; (try clear hb); (try clear hb2); (try clear hk); (try clear hi)))
                    go_meet
                    case rel => exact ⟨_, (false), (by first | rfl | (simp; done) | (simp [*]; done)), H', ⟨by have := HJ6.out; first | omega | exact Nat.le_refl _⟩, ⟨by (with_reducible repeat (first | apply Kd.R_alloc | apply Kd.R_drewN | apply Kd.R_drew)); exact HO_412001.out⟩, ⟨by (with_reducible repeat (first | refine blk_drewN ?_ _ | refine blk_drew ?_ | refine blk_alloc ?_ _)); exact BK411.out⟩, ⟨by repeat (first | (with_reducible first | exact HB.out | apply below_alloc | apply pw_below_drewN | apply below_drew1 | refine below_set ?_ GE411.out) | exact HB.out)⟩⟩
              case rest =>
                clear HC64
                try clear c1
                try clear c2
                try clear c2b0
                try clear c2b1
                try clear p2
                try clear c3
                try clear c4
                try clear c5
                try clear c6
                try clear p6
                try clear c7
                try clear c8
                try clear c18
                try clear c19
                try clear c20
                try clear c21
                try clear c22
                try clear c23
                try clear c25
                try clear c25b0
                try clear c26
                try clear c33
                try clear c33b0
                try clear c59
                try clear c61
                try clear c61b0
                try clear c61b1
                try clear c63
                try clear c63b0
                try clear c63b1
                try clear p64
                try clear c68
                try clear c71
                try clear c71b0
                try clear c75
                try clear c87
                try clear hcz10_0
                try clear hcz10_1
                try clear hcz13_0
                try clear hcz13_1
                try clear hcz15_0
                try clear hcz15_1
                try clear hcz26_0
                try clear hcz26_1
                try clear hcz28_0
                try clear hcz28_1
                try clear hcz30_0
                try clear hcz30_1
                try clear hcz34_0
                try clear hcz34_1
                try clear hcz36_0
                try clear hcz36_1
                try clear hcz38_0
                try clear hcz38_1
                try clear hcz40_0
                try clear hcz40_1
                try clear hcz42_0
                try clear hcz42_1
                try clear hcz44_0
                try clear hcz44_1
                try clear hcz46_0
                try clear hcz46_1
                try clear hcz47_0
                try clear hcz47_1
                try clear hcz49_0
                try clear hcz49_1
                try clear hcz51_0
                try clear hcz51_1
                try clear hcz53_0
                try clear hcz53_1
                try clear hcz55_0
                try clear hcz55_1
                try clear hcz57_0
                try clear hcz57_1
                try clear hcz72_0
                try clear hcz72_1
                try clear hcz78_0
                try clear hcz78_1
                try clear hcz80_0
                try clear hcz80_1
                try clear hcz82_0
                try clear hcz82_1
                try clear hcz84_0
                try clear hcz84_1
                try clear hcz90_0
                try clear hcz90_1
                try clear hcz92_0
                try clear hcz92_1
                try clear hcz94_0
                try clear hcz94_1
                try clear hcz96_0
                try clear hcz96_1
                try clear hfz10_0
                try clear hfz10_1
                try clear hfz13_0
                try clear hfz13_1
                try clear hfz15_0
                try clear hfz15_1
                try clear hfz26_0
                try clear hfz26_1
                try clear hfz28_0
                try clear hfz28_1
                try clear hfz30_0
                try clear hfz30_1
                try clear hfz34_0
                try clear hfz34_1
                try clear hfz36_0
                try clear hfz36_1
                try clear hfz38_0
                try clear hfz38_1
                try clear hfz40_0
                try clear hfz40_1
                try clear hfz42_0
                try clear hfz42_1
                try clear hfz44_0
                try clear hfz44_1
                try clear hfz46_0
                try clear hfz46_1
                try clear hfz47_0
                try clear hfz47_1
                try clear hfz49_0
                try clear hfz49_1
                try clear hfz51_0
                try clear hfz51_1
                try clear hfz53_0
                try clear hfz53_1
                try clear hfz55_0
                try clear hfz55_1
                try clear hfz57_0
                try clear hfz57_1
                try clear hfz72_0
                try clear hfz72_1
                try clear hfz78_0
                try clear hfz78_1
                try clear hfz80_0
                try clear hfz80_1
                try clear hfz82_0
                try clear hfz82_1
                try clear hfz84_0
                try clear hfz84_1
                try clear hfz90_0
                try clear hfz90_1
                try clear hfz92_0
                try clear hfz92_1
                try clear hfz94_0
                try clear hfz94_1
                try clear hfz96_0
                try clear hfz96_1
                try clear p2
                obtain ⟨kq, x81_63, rfl, HA, HJ63, HO_412001, BK411, HB⟩ := hcut
                cases kq with
                | zero => exact absurd HA.out (by simp [laws_FnCovers.j1])
                | succ kj63 =>
                  have H := HA.out
                  clear HA
                  simp only [laws_FnCovers.j1] at H
                  by_cases c98 : x81_63 = true
                  · subst c98
                    have H1 : (some false) = some r := by rw [if_pos rfl] at H; exact H
                    clear H
                    have H := H1
                    clear H1
                    obtain rfl := Option.some.inj H
                    go_wp2
                    go_ret
                    exact ⟨by first | rfl | (simp [errW_none, errW_some] <;> rfl) | (simp only [← hji62]; first | rfl | (simp [errW_none, errW_some] <;> rfl)) | (simp [*, errW_none, errW_some] <;> rfl), by repeat (first | (with_reducible first | exact HB.out | apply below_alloc | apply pw_below_drewN | apply below_drew1 | refine below_set ?_ GE411.out) | exact HB.out)⟩
                  · replace c98 := Bool.eq_false_iff.mpr c98
                    subst c98
                    have H1 : ((impl_IsClique.f kj63 t407 t408 (Int.tmod t421 (ji62))).bind fun t431 => (if t431 = true then ((impl_IsIndependent.f kj63 t407 t408 (Int.tmod t421 (ji62))).bind fun t432 => (if t432 = true then ((impl_CountSet.f (Int.tmod t421 (ji62))).bind fun t433 => (some (decide (t433 ≤ 1)))) else (some true))) else (some true))) = some r := by rw [if_neg (show ¬ (false = true) by decide)] at H; exact H
                    clear H
                    have H := H1
                    clear H1
                    replace H := Option.bind_eq_some_iff.mp H
                    obtain ⟨t431, A990, H⟩ := H
                    replace H : (if t431 = true then ((impl_IsIndependent.f kj63 t407 t408 (Int.tmod t421 (ji62))).bind fun t432 => (if t432 = true then ((impl_CountSet.f (Int.tmod t421 (ji62))).bind fun t433 => (some (decide (t433 ≤ 1)))) else (some true))) else (some true)) = some r := H
                    have A99 := Aside0.mk A990
                    clear A990
                    by_cases c100 : t431 = true
                    · subst c100
                      have H1 : ((impl_IsIndependent.f kj63 t407 t408 (Int.tmod t421 (ji62))).bind fun t432 => (if t432 = true then ((impl_CountSet.f (Int.tmod t421 (ji62))).bind fun t433 => (some (decide (t433 ≤ 1)))) else (some true))) = some r := by rw [if_pos rfl] at H; exact H
                      clear H
                      have H := H1
                      clear H1
                      replace H := Option.bind_eq_some_iff.mp H
                      obtain ⟨t432, A1010, H⟩ := H
                      replace H : (if t432 = true then ((impl_CountSet.f (Int.tmod t421 (ji62))).bind fun t433 => (some (decide (t433 ≤ 1)))) else (some true)) = some r := H
                      have A101 := Aside0.mk A1010
                      clear A1010
                      by_cases c102 : t432 = true
                      · subst c102
                        have H1 : ((impl_CountSet.f (Int.tmod t421 (ji62))).bind fun t433 => (some (decide (t433 ≤ 1)))) = some r := by rw [if_pos rfl] at H; exact H
                        clear H
                        have H := H1
                        clear H1
                        replace H := Option.bind_eq_some_iff.mp H
                        obtain ⟨t433, A1030, H⟩ := H
                        replace H : (some (decide (t433 ≤ 1))) = some r := H
                        have A103 := Aside0.mk A1030
                        clear A1030
                        obtain rfl := Option.some.inj H
                        have hcz104_0 : wc.cell? ⟨gb411, 0, none⟩ = some (.int .i64 t407) := (blk_cell BK411.out 0).trans rfl
                        have hcz104_1 : wc.cell? ⟨gb411, 1, none⟩ = some (.slice Ao11 t408.length co11) := (blk_cell BK411.out 1).trans rfl
                        have hfz104_0 := blk_frozen BK411.out 0
                        have hfz104_1 := blk_frozen BK411.out 1
                        go_wp2_with (first | ((with_reducible refine gate_callee (f := 27) rfl ?_); refine goesL_ (some 84) rfl rfl Tryd.func27 (by kernel_rfl) rfl #[.agg #[.int .i64 t407, .slice Ao11 t408.length co11], .int .i64 (Int.tmod t421 (ji62))] rfl (by (try simp only [List.map_toArray, List.map_cons, List.map_nil]); first | done | (simp only [hji62]; rfl) | rfl | (simp only [List.length_drop, List.length_take]; rfl)) ?_; (with_reducible refine (impl_IsClique.calls kj63 t407 _ _ t408 (Int.tmod t421 (ji62)) true _ ?side1 ?side2 A99.out).mono ?_); (case side1 => repeat (first | exact (Kd.R_reads' HO_412001.out).2.2 | (with_reducible refine Kd.C_alloc ?_ _) | (with_reducible refine Kd.C_drewN ?_ _) | (with_reducible refine Kd.C_drew ?_))); (case side2 => exact (Kd.R_reads' HO_412001.out).2.1); rintro e w105 ⟨rfl, hb⟩; refine ⟨_, rfl, ?_⟩; have n0_ := Aside0.mk (Kd.R_below (by (with_reducible repeat (first | apply Kd.R_alloc | apply Kd.R_drewN | apply Kd.R_drew)); exact HO_412001.out) hb); have n1_ := Aside0.mk (blk_below (g := gb411) (o := .cells #[.int .i64 t407, .slice Ao11 t408.length co11] 27 (0, 0)) (by (with_reducible repeat (first | refine blk_drewN ?_ _ | refine blk_drew ?_ | refine blk_alloc ?_ _)); exact BK411.out) hb); have n2_ := Aside0.mk (below_step (by repeat (first | (with_reducible first | exact HB.out | apply below_alloc | apply pw_below_drewN | apply below_drew1 | refine below_set ?_ GE411.out) | exact HB.out)) hb); clear HO_412001; clear BK411; clear HB; have HO_412001 := n0_; have BK411 := n1_; have HB := n2_; clear n0_ n1_ n2_; (try clear hb); (try clear hb2); (try clear hk); (try clear hi); have hcz106_0 : w105.cell? ⟨gb411, 0, none⟩ = some (.int .i64 t407) := (blk_cell BK411.out 0).trans rfl; have hcz106_1 : w105.cell? ⟨gb411, 1, none⟩ = some (.slice Ao11 t408.length co11) := (blk_cell BK411.out 1).trans rfl; have hfz106_0 := blk_frozen BK411.out 0; have hfz106_1 := blk_frozen BK411.out 1) | (go_at_call 23; (with_reducible refine (impl_IsIndependent.calls kj63 t407 _ _ t408 (Int.tmod t421 (ji62)) true _ ?side1 ?side2 A101.out).mono ?_); (case side1 => repeat (first | exact (Kd.R_reads' HO_412001.out).2.2 | (with_reducible refine Kd.C_alloc ?_ _) | (with_reducible refine Kd.C_drewN ?_ _) | (with_reducible refine Kd.C_drew ?_))); (case side2 => exact (Kd.R_reads' HO_412001.out).2.1); rintro e w107 ⟨rfl, hb⟩; have n0_ := Aside0.mk (Kd.R_below (by (with_reducible repeat (first | apply Kd.R_alloc | apply Kd.R_drewN | apply Kd.R_drew)); exact HO_412001.out) hb); have n1_ := Aside0.mk (blk_below (g := gb411) (o := .cells #[.int .i64 t407, .slice Ao11 t408.length co11] 27 (0, 0)) (by (with_reducible repeat (first | refine blk_drewN ?_ _ | refine blk_drew ?_ | refine blk_alloc ?_ _)); exact BK411.out) hb); have n2_ := Aside0.mk (below_step (by repeat (first | (with_reducible first | exact HB.out | apply below_alloc | apply pw_below_drewN | apply below_drew1 | refine below_set ?_ GE411.out) | exact HB.out)) hb); clear HO_412001; clear BK411; clear HB; have HO_412001 := n0_; have BK411 := n1_; have HB := n2_; clear n0_ n1_ n2_; (try clear hb); (try clear hb2); (try clear hk); (try clear hi)) | (go_at_call 25; (with_reducible refine (impl_CountSet.calls (Int.tmod t421 (ji62)) t433 _ A103.out).mono ?_); rintro e w' ⟨rfl, ⟨nd, rfl⟩⟩))
                        go_ret
                        exact ⟨by first | rfl | (simp [errW_none, errW_some] <;> rfl) | (simp only [← hji62]; first | rfl | (simp [errW_none, errW_some] <;> rfl)) | (simp [*, errW_none, errW_some] <;> rfl), by repeat (first | (with_reducible first | exact HB.out | apply below_alloc | apply pw_below_drewN | apply below_drew1 | refine below_set ?_ GE411.out) | exact HB.out)⟩
                      · replace c102 := Bool.eq_false_iff.mpr c102
                        subst c102
                        have H1 : (some true) = some r := by rw [if_neg (show ¬ (false = true) by decide)] at H; exact H
                        clear H
                        have H := H1
                        clear H1
                        obtain rfl := Option.some.inj H
                        have hcz108_0 : wc.cell? ⟨gb411, 0, none⟩ = some (.int .i64 t407) := (blk_cell BK411.out 0).trans rfl
                        have hcz108_1 : wc.cell? ⟨gb411, 1, none⟩ = some (.slice Ao11 t408.length co11) := (blk_cell BK411.out 1).trans rfl
                        have hfz108_0 := blk_frozen BK411.out 0
                        have hfz108_1 := blk_frozen BK411.out 1
                        go_wp2_with (first | ((with_reducible refine gate_callee (f := 27) rfl ?_); refine goesL_ (some 84) rfl rfl Tryd.func27 (by kernel_rfl) rfl #[.agg #[.int .i64 t407, .slice Ao11 t408.length co11], .int .i64 (Int.tmod t421 (ji62))] rfl (by (try simp only [List.map_toArray, List.map_cons, List.map_nil]); first | done | (simp only [hji62]; rfl) | rfl | (simp only [List.length_drop, List.length_take]; rfl)) ?_; (with_reducible refine (impl_IsClique.calls kj63 t407 _ _ t408 (Int.tmod t421 (ji62)) true _ ?side1 ?side2 A99.out).mono ?_); (case side1 => repeat (first | exact (Kd.R_reads' HO_412001.out).2.2 | (with_reducible refine Kd.C_alloc ?_ _) | (with_reducible refine Kd.C_drewN ?_ _) | (with_reducible refine Kd.C_drew ?_))); (case side2 => exact (Kd.R_reads' HO_412001.out).2.1); rintro e w109 ⟨rfl, hb⟩; refine ⟨_, rfl, ?_⟩; have n0_ := Aside0.mk (Kd.R_below (by (with_reducible repeat (first | apply Kd.R_alloc | apply Kd.R_drewN | apply Kd.R_drew)); exact HO_412001.out) hb); have n1_ := Aside0.mk (blk_below (g := gb411) (o := .cells #[.int .i64 t407, .slice Ao11 t408.length co11] 27 (0, 0)) (by (with_reducible repeat (first | refine blk_drewN ?_ _ | refine blk_drew ?_ | refine blk_alloc ?_ _)); exact BK411.out) hb); have n2_ := Aside0.mk (below_step (by repeat (first | (with_reducible first | exact HB.out | apply below_alloc | apply pw_below_drewN | apply below_drew1 | refine below_set ?_ GE411.out) | exact HB.out)) hb); clear HO_412001; clear BK411; clear HB; have HO_412001 := n0_; have BK411 := n1_; have HB := n2_; clear n0_ n1_ n2_; (try clear hb); (try clear hb2); (try clear hk); (try clear hi); have hcz110_0 : w109.cell? ⟨gb411, 0, none⟩ = some (.int .i64 t407) := (blk_cell BK411.out 0).trans rfl; have hcz110_1 : w109.cell? ⟨gb411, 1, none⟩ = some (.slice Ao11 t408.length co11) := (blk_cell BK411.out 1).trans rfl; have hfz110_0 := blk_frozen BK411.out 0; have hfz110_1 := blk_frozen BK411.out 1) | (go_at_call 23; (with_reducible refine (impl_IsIndependent.calls kj63 t407 _ _ t408 (Int.tmod t421 (ji62)) false _ ?side1 ?side2 A101.out).mono ?_); (case side1 => repeat (first | exact (Kd.R_reads' HO_412001.out).2.2 | (with_reducible refine Kd.C_alloc ?_ _) | (with_reducible refine Kd.C_drewN ?_ _) | (with_reducible refine Kd.C_drew ?_))); (case side2 => exact (Kd.R_reads' HO_412001.out).2.1); rintro e w111 ⟨rfl, hb⟩; have n0_ := Aside0.mk (Kd.R_below (by (with_reducible repeat (first | apply Kd.R_alloc | apply Kd.R_drewN | apply Kd.R_drew)); exact HO_412001.out) hb); have n1_ := Aside0.mk (blk_below (g := gb411) (o := .cells #[.int .i64 t407, .slice Ao11 t408.length co11] 27 (0, 0)) (by (with_reducible repeat (first | refine blk_drewN ?_ _ | refine blk_drew ?_ | refine blk_alloc ?_ _)); exact BK411.out) hb); have n2_ := Aside0.mk (below_step (by repeat (first | (with_reducible first | exact HB.out | apply below_alloc | apply pw_below_drewN | apply below_drew1 | refine below_set ?_ GE411.out) | exact HB.out)) hb); clear HO_412001; clear BK411; clear HB; have HO_412001 := n0_; have BK411 := n1_; have HB := n2_; clear n0_ n1_ n2_; (try clear hb); (try clear hb2); (try clear hk); (try clear hi)))
                        go_ret
                        exact ⟨by first | rfl | (simp [errW_none, errW_some] <;> rfl) | (simp only [← hji62]; first | rfl | (simp [errW_none, errW_some] <;> rfl)) | (simp [*, errW_none, errW_some] <;> rfl), by repeat (first | (with_reducible first | exact HB.out | apply below_alloc | apply pw_below_drewN | apply below_drew1 | refine below_set ?_ GE411.out) | exact HB.out)⟩
                    · replace c100 := Bool.eq_false_iff.mpr c100
                      subst c100
                      have H1 : (some true) = some r := by rw [if_neg (show ¬ (false = true) by decide)] at H; exact H
                      clear H
                      have H := H1
                      clear H1
                      obtain rfl := Option.some.inj H
                      have hcz112_0 : wc.cell? ⟨gb411, 0, none⟩ = some (.int .i64 t407) := (blk_cell BK411.out 0).trans rfl
                      have hcz112_1 : wc.cell? ⟨gb411, 1, none⟩ = some (.slice Ao11 t408.length co11) := (blk_cell BK411.out 1).trans rfl
                      have hfz112_0 := blk_frozen BK411.out 0
                      have hfz112_1 := blk_frozen BK411.out 1
                      go_wp2_with (first | ((with_reducible refine gate_callee (f := 27) rfl ?_); refine goesL_ (some 84) rfl rfl Tryd.func27 (by kernel_rfl) rfl #[.agg #[.int .i64 t407, .slice Ao11 t408.length co11], .int .i64 (Int.tmod t421 (ji62))] rfl (by (try simp only [List.map_toArray, List.map_cons, List.map_nil]); first | done | (simp only [hji62]; rfl) | rfl | (simp only [List.length_drop, List.length_take]; rfl)) ?_; (with_reducible refine (impl_IsClique.calls kj63 t407 _ _ t408 (Int.tmod t421 (ji62)) false _ ?side1 ?side2 A99.out).mono ?_); (case side1 => repeat (first | exact (Kd.R_reads' HO_412001.out).2.2 | (with_reducible refine Kd.C_alloc ?_ _) | (with_reducible refine Kd.C_drewN ?_ _) | (with_reducible refine Kd.C_drew ?_))); (case side2 => exact (Kd.R_reads' HO_412001.out).2.1); rintro e w113 ⟨rfl, hb⟩; refine ⟨_, rfl, ?_⟩; have n0_ := Aside0.mk (Kd.R_below (by (with_reducible repeat (first | apply Kd.R_alloc | apply Kd.R_drewN | apply Kd.R_drew)); exact HO_412001.out) hb); have n1_ := Aside0.mk (blk_below (g := gb411) (o := .cells #[.int .i64 t407, .slice Ao11 t408.length co11] 27 (0, 0)) (by (with_reducible repeat (first | refine blk_drewN ?_ _ | refine blk_drew ?_ | refine blk_alloc ?_ _)); exact BK411.out) hb); have n2_ := Aside0.mk (below_step (by repeat (first | (with_reducible first | exact HB.out | apply below_alloc | apply pw_below_drewN | apply below_drew1 | refine below_set ?_ GE411.out) | exact HB.out)) hb); clear HO_412001; clear BK411; clear HB; have HO_412001 := n0_; have BK411 := n1_; have HB := n2_; clear n0_ n1_ n2_; (try clear hb); (try clear hb2); (try clear hk); (try clear hi)))
                      go_ret
                      exact ⟨by first | rfl | (simp [errW_none, errW_some] <;> rfl) | (simp only [← hji62]; first | rfl | (simp [errW_none, errW_some] <;> rfl)) | (simp [*, errW_none, errW_some] <;> rfl), by repeat (first | (with_reducible first | exact HB.out | apply below_alloc | apply pw_below_drewN | apply below_drew1 | refine below_set ?_ GE411.out) | exact HB.out)⟩
          · rw [if_neg c61] at H
            exact absurd H (by simp)

/-- THE ONE PURE STATEMENT of laws_FnCovers: yours. -/
def laws_FnCovers.Pure : Prop := ∀ (l0 : List Int), l0.length ≤ maxLen → l0.length * 1 ≤ 140737488351232 → (∀ x ∈ l0, (Lit.int .u8 x).wf = true) → ∃ k, laws_FnCovers.f k l0 = some true
theorem laws_FnCovers.walk (P : laws_FnCovers.Pure) (a0 : Option Addr) (len0 cap0 : Nat) (z0 : List Int) (w : World) (hT_ : TabZ w) (w0 : (a0 = none ∧ len0 = 0 ∧ cap0 = 0 ∧ z0 = []) ∨ ∃ x, a0 = some x ∧ len0 ≤ cap0 ∧ cap0 ≤ maxLen ∧ z0.length = cap0 ∧ (∀ i, i < z0.length → w.cell? (x.add i) = some (.int .u8 (z0.getD i 0))) ∧ ∀ n ∈ z0, (Lit.int .u8 n).wf = true) (y0 : len0 * 1 ≤ 140737488351232) :
    Calls Tryd.prog 4 #[.slice a0 len0 cap0] w fun e w' => e = .returned (.bool true) ∧ Below w.heap.size w w' := by
  obtain ⟨l0, rfl, hr0, hm0, hw0, hc0⟩ := ReadsInt.ofRowC w0
  obtain ⟨k, h⟩ := P l0 hm0 y0 hw0
  refine (laws_FnCovers.calls k _ _ l0 true w (Kd.C_of_reads (d := (0 : Int)) (h1 := fun _ => rfl) hr0) hc0 hT_ h).mono ?_
  rintro e w' ⟨rfl, hd⟩
  exact ⟨rfl, hd⟩

end Go.Proofs.YtfnlbakeefcmeaaDoor.Q
