-- Made by a program of this session (wip/tools), out of Lean's own print of the translation.
import Derived.Test.YthfjphkhpfmdcaaGreatDoorMCardFnExactParseGraph0
import Derived.Test.YthfjphkhpfmdcaaGreatDoorQx5N
import Derived.Test.YthfjphkhpfmdcaaGreatDoorQx7N
namespace Go.Proofs.YthfjphkhpfmdcaaGreatDoor.Q
open Go.RowKit Go.Proofs.YthfjphkhpfmdcaaGreatDoorW.PrintWords Go.Proofs.YthfjphkhpfmdcaaGreatDoorW.PrintLast Go.Proofs.YthfjphkhpfmdcaaGreatDoorW.PrintMore
attribute [local go_sem] max2_int min2_int max_two min_two max_three min_three max_four min_four   -- for this text's walks alone
set_option linter.unusedVariables false
set_option linter.unusedSimpArgs false

/-! ### spec_GraphOk: function 27 -/
mutual
def spec_GraphOk.j0 : Nat → Bool → Int → List Int → Option (Bool)
 | 0,_,_,_=>none
 | k + 1,x19,x137000,x137001=>if x19 = true then (some false) else (spec_GraphOk.l0 k x137001 (x137001.length : Int) 0 x137000 x137001)
def spec_GraphOk.l0 : Nat → List Int → Int → Int → Int → List Int → Option (Bool)
 | 0,_,_,_,_,_=>none
 | k + 1,x21,x22,x23,x137000,x137001=>if x23 < x22 then (if 0 ≤ x23 then (if x23 < (x21.length : Int) then (if 0 ≤ x137000 then ((spec_l01In.f (rd x21 x23) 0 (wrap64 ((shl .i64 1 x137000) - 1))).bind fun t139=>(if t139 = true then ((spec_l02Has.f (rd x21 x23) x23).bind fun t140=>(if t140 = true then (some false) else (spec_GraphOk.l0 k x21 x22 (wrap64 (x23 + 1)) x137000 x137001))) else (some false))) else (none)) else (none)) else (none)) else (spec_GraphOk.l1 k x137001 (x137001.length : Int) 0 x137000 x137001)
def spec_GraphOk.l1 : Nat → List Int → Int → Int → Int → List Int → Option (Bool)
 | 0,_,_,_,_,_=>none
 | k + 1,x42,x43,x44,x137000,x137001=>if x44 < x43 then (if 0 ≤ x44 then (if x44 < (x42.length : Int) then (spec_GraphOk.l2 k x44 (rd x42 x44) x42 x43 x44 (x137001.length : Int) 0 x137000 x137001) else (none)) else (none)) else (some true)
def spec_GraphOk.l2 : Nat → Int → Int → List Int → Int → Int → Int → Int → Int → List Int → Option (Bool)
 | 0,_,_,_,_,_,_,_,_,_=>none
 | k + 1,x5,x6,x42,x43,x44,x51,x52,x137000,x137001=>if x52 < x51 then ((spec_l02Has.f x6 x52).bind fun t142=>(if 0 ≤ x52 then (if x52 < (x137001.length : Int) then ((spec_l02Has.f (rd x137001 x52) x5).bind fun t144=>(if (t142 != t144) = true then (some false) else (spec_GraphOk.l2 k x5 x6 x42 x43 x44 x51 (wrap64 (x52 + 1)) x137000 x137001))) else (none)) else (none))) else (spec_GraphOk.l1 k x42 x43 (wrap64 (x44 + 1)) x137000 x137001)
end
def spec_GraphOk.f (k : Nat) (a0_0 : Int) (l0_1 : List Int) : Option (Bool):=(spec_l01In.f a0_0 1 8).bind fun t137=>(if t137 = true then (spec_GraphOk.j0 k ((l0_1.length : Int) != a0_0) a0_0 l0_1) else (spec_GraphOk.j0 k true a0_0 l0_1))
set_option maxHeartbeats 8000000 in
set_option maxRecDepth 100000 in
theorem spec_GraphOk.calls (k : Nat) (a0_0 : Int) (A0_1 : Option Addr) (c0_1 : Nat) (l0_1 : List Int) (r : Bool) (w : World) (hr0_1 : Kd.C (Kd.int .i64) w A0_1 l0_1.length l0_1) (hc0_1 : l0_1.length ≤ c0_1) (h : spec_GraphOk.f k a0_0 l0_1 = some r) :
  Calls Tryz.prog 27 #[.agg #[.int .i64 a0_0,.slice A0_1 l0_1.length c0_1]] w fun e w'=>e = .returned (.bool r) ∧ Below w.heap.size w w':=by
 have hu24:=Tryz.underlying24
 have HR0_1:=Aside0.mk hr0_1
 have HC0_1:=Aside0.mk hc0_1
 clear hr0_1 hc0_1
 have HB:=Aside0.mk (Below.refl w.heap.size w)
 have H : ((spec_l01In.f a0_0 1 8).bind fun t137=>(if t137 = true then (spec_GraphOk.j0 k ((l0_1.length : Int) != a0_0) a0_0 l0_1) else (spec_GraphOk.j0 k true a0_0 l0_1))) = some r:=h
 clear h
 have HC2:=Aside0.mk H
 clear H
 go_enter Tryz.func27,Tryz.ntmps27
 go_upto_region 1 with (first | ((with_reducible refine gate_dst (N:=1) rfl ?_);(try (refine gate_guard (by rfl) ?_;dsimp only));refine box_event ?hg (N:=1) ?hd (cs:=#[.int .i64 a0_0,.slice A0_1 l0_1.length c0_1]) (t:=24) ?hr ?_;(case hd=>rfl);(case hg=>rfl);(case hr=>first | (go_simp;done) | (go_simp;rfl));intro gb136 hg w3 hbox hb;have n0_:=Aside0.mk (below_step (by repeat (first | (with_reducible first | exact HB.out | apply below_alloc | apply pw_below_drewN | apply below_drew1) | exact HB.out)) hb);have n1_:=Aside0.mk (hbox);have n2_:=Aside0.mk ((by rw [hg];exact (below_size (by repeat (first | (with_reducible first | exact HB.out | apply below_alloc | apply pw_below_drewN | apply below_drew1) | exact HB.out))) : w.heap.size ≤ gb136));have n3_:=Aside0.mk ((by rw [hg];exact (below_size (by repeat (first | (with_reducible first | exact HB.out | apply below_alloc | apply pw_below_drewN | apply below_drew1) | exact HB.out))) : w.heap.size ≤ gb136));clear HB;have HB:=n0_;have BK136:=n1_;have GW136:=n2_;have GE136:=n3_;clear n0_ n1_ n2_ n3_;clear hb hbox hg))
 repeat (go_quiet (first | ((with_reducible refine gate_dst (N:=1) rfl ?_);(try (refine gate_guard (by rfl) ?_;dsimp only));refine box_event ?hg (N:=1) ?hd (cs:=#[.int .i64 a0_0,.slice A0_1 l0_1.length c0_1]) (t:=24) ?hr ?_;(case hd=>rfl);(case hg=>rfl);(case hr=>first | (go_simp;done) | (go_simp;rfl));intro gb136 hg w3 hbox hb;have n0_:=Aside0.mk (below_step (by repeat (first | (with_reducible first | exact HB.out | apply below_alloc | apply pw_below_drewN | apply below_drew1) | exact HB.out)) hb);have n1_:=Aside0.mk (hbox);have n2_:=Aside0.mk ((by rw [hg];exact (below_size (by repeat (first | (with_reducible first | exact HB.out | apply below_alloc | apply pw_below_drewN | apply below_drew1) | exact HB.out))) : w.heap.size ≤ gb136));have n3_:=Aside0.mk ((by rw [hg];exact (below_size (by repeat (first | (with_reducible first | exact HB.out | apply below_alloc | apply pw_below_drewN | apply below_drew1) | exact HB.out))) : w.heap.size ≤ gb136));clear HB;have HB:=n0_;have BK136:=n1_;have GW136:=n2_;have GE136:=n3_;clear n0_ n1_ n2_ n3_;clear hb hbox hg));go_upto_region 1 with (first | ((with_reducible refine gate_dst (N:=1) rfl ?_);(try (refine gate_guard (by rfl) ?_;dsimp only));refine box_event ?hg (N:=1) ?hd (cs:=#[.int .i64 a0_0,.slice A0_1 l0_1.length c0_1]) (t:=24) ?hr ?_;(case hd=>rfl);(case hg=>rfl);(case hr=>first | (go_simp;done) | (go_simp;rfl));intro gb136 hg w3 hbox hb;have n0_:=Aside0.mk (below_step (by repeat (first | (with_reducible first | exact HB.out | apply below_alloc | apply pw_below_drewN | apply below_drew1) | exact HB.out)) hb);have n1_:=Aside0.mk (hbox);have n2_:=Aside0.mk ((by rw [hg];exact (below_size (by repeat (first | (with_reducible first | exact HB.out | apply below_alloc | apply pw_below_drewN | apply below_drew1) | exact HB.out))) : w.heap.size ≤ gb136));have n3_:=Aside0.mk ((by rw [hg];exact (below_size (by repeat (first | (with_reducible first | exact HB.out | apply below_alloc | apply pw_below_drewN | apply below_drew1) | exact HB.out))) : w.heap.size ≤ gb136));clear HB;have HB:=n0_;have BK136:=n1_;have GW136:=n2_;have GE136:=n3_;clear n0_ n1_ n2_ n3_;clear hb hbox hg)))
 (try simp only [Act.put,List.setIfInBounds_toArray,List.set_cons_zero,List.set_cons_succ])
 go_cut [19] (fun v19 wc=>∃ (kq : Nat) (x19_1 : Bool),v19 = .bool x19_1 ∧ Aside0 (spec_GraphOk.j0 kq x19_1 a0_0 l0_1 = some r) ∧ Aside0 (kq ≤ k) ∧ Aside0 (wc.heap[gb136]? = some (.cells #[.int .i64 a0_0,(.slice A0_1 l0_1.length c0_1)] 24 (0,0))) ∧ Aside0 (Below w.heap.size w wc))
 case first =>
  have H:=HC2.out
  clear HC2
  replace H:=Option.bind_eq_some_iff.mp H
  obtain ⟨t137,A40,H⟩:=H
  replace H : (if t137 = true then (spec_GraphOk.j0 k ((l0_1.length : Int) != a0_0) a0_0 l0_1) else (spec_GraphOk.j0 k true a0_0 l0_1)) = some r:=H
  have A4:=Aside0.mk A40
  clear A40
  by_cases c5 : t137 = true
  ·subst c5
   have H1 : (spec_GraphOk.j0 k ((l0_1.length : Int) != a0_0) a0_0 l0_1) = some r:=by rw [if_pos rfl] at H;exact H
   clear H
   have H:=H1
   clear H1
   have H':=Aside0.mk H
   clear H
   have hcz6_0 : w3.cell? ⟨gb136,0,none⟩ = some (.int .i64 a0_0):=(blk_cell BK136.out 0).trans rfl
   have hcz6_1 : w3.cell? ⟨gb136,1,none⟩ = some (.slice A0_1 l0_1.length c0_1):=(blk_cell BK136.out 1).trans rfl
   have hfz6_0:=blk_frozen BK136.out 0
   have hfz6_1:=blk_frozen BK136.out 1
   go_wp2_with (first | (go_at_call 26;(with_reducible refine (spec_l01In.calls a0_0 1 8 true _ A4.out).mono ?_);rintro e w' ⟨rfl,⟨nd,rfl⟩⟩;(try first | exact ⟨rfl,_,World.drewN_drewN _ _ _⟩ | exact ⟨rfl,_,Eq.trans (World.drewN_drewN _ _ _) (congrArg (World.drewN _) (Nat.add_assoc _ _ _))⟩)))
   repeat (go_quiet (first | (go_at_call 26;(with_reducible refine (spec_l01In.calls a0_0 1 8 true _ A4.out).mono ?_);rintro e w' ⟨rfl,⟨nd,rfl⟩⟩;(try first | exact ⟨rfl,_,World.drewN_drewN _ _ _⟩ | exact ⟨rfl,_,Eq.trans (World.drewN_drewN _ _ _) (congrArg (World.drewN _) (Nat.add_assoc _ _ _))⟩)));try go_wp2_with (first | (go_at_call 26;(with_reducible refine (spec_l01In.calls a0_0 1 8 true _ A4.out).mono ?_);rintro e w' ⟨rfl,⟨nd,rfl⟩⟩;(try first | exact ⟨rfl,_,World.drewN_drewN _ _ _⟩ | exact ⟨rfl,_,Eq.trans (World.drewN_drewN _ _ _) (congrArg (World.drewN _) (Nat.add_assoc _ _ _))⟩))))
   go_meet
   case rel=>exact ⟨_,(((l0_1.length : Int) != a0_0)),(by first | rfl | (simp;done) | (simp [*];done)),H',⟨by first | omega | exact Nat.le_refl _⟩,⟨by (with_reducible repeat (first | refine blk_drewN ?_ _ | refine blk_drew ?_ | refine blk_alloc ?_ _));exact BK136.out⟩,⟨by repeat (first | (with_reducible first | exact HB.out | apply below_alloc | apply pw_below_drewN | apply below_drew1 | refine below_set ?_ GE136.out) | exact HB.out)⟩⟩
  ·replace c5:=Bool.eq_false_iff.mpr c5
   subst c5
   have H1 : (spec_GraphOk.j0 k true a0_0 l0_1) = some r:=by rw [if_neg (show ¬ (false = true) by decide)] at H;exact H
   clear H
   have H:=H1
   clear H1
   have H':=Aside0.mk H
   clear H
   have hcz7_0 : w3.cell? ⟨gb136,0,none⟩ = some (.int .i64 a0_0):=(blk_cell BK136.out 0).trans rfl
   have hcz7_1 : w3.cell? ⟨gb136,1,none⟩ = some (.slice A0_1 l0_1.length c0_1):=(blk_cell BK136.out 1).trans rfl
   have hfz7_0:=blk_frozen BK136.out 0
   have hfz7_1:=blk_frozen BK136.out 1
   go_wp2_with (first | (go_at_call 26;(with_reducible refine (spec_l01In.calls a0_0 1 8 false _ A4.out).mono ?_);rintro e w' ⟨rfl,⟨nd,rfl⟩⟩;(try first | exact ⟨rfl,_,World.drewN_drewN _ _ _⟩ | exact ⟨rfl,_,Eq.trans (World.drewN_drewN _ _ _) (congrArg (World.drewN _) (Nat.add_assoc _ _ _))⟩)))
   repeat (go_quiet (first | (go_at_call 26;(with_reducible refine (spec_l01In.calls a0_0 1 8 false _ A4.out).mono ?_);rintro e w' ⟨rfl,⟨nd,rfl⟩⟩;(try first | exact ⟨rfl,_,World.drewN_drewN _ _ _⟩ | exact ⟨rfl,_,Eq.trans (World.drewN_drewN _ _ _) (congrArg (World.drewN _) (Nat.add_assoc _ _ _))⟩)));try go_wp2_with (first | (go_at_call 26;(with_reducible refine (spec_l01In.calls a0_0 1 8 false _ A4.out).mono ?_);rintro e w' ⟨rfl,⟨nd,rfl⟩⟩;(try first | exact ⟨rfl,_,World.drewN_drewN _ _ _⟩ | exact ⟨rfl,_,Eq.trans (World.drewN_drewN _ _ _) (congrArg (World.drewN _) (Nat.add_assoc _ _ _))⟩))))
   go_meet
   case rel=>exact ⟨_,(true),(by first | rfl | (simp;done) | (simp [*];done)),H',⟨by first | omega | exact Nat.le_refl _⟩,⟨by (with_reducible repeat (first | refine blk_drewN ?_ _ | refine blk_drew ?_ | refine blk_alloc ?_ _));exact BK136.out⟩,⟨by repeat (first | (with_reducible first | exact HB.out | apply below_alloc | apply pw_below_drewN | apply below_drew1 | refine below_set ?_ GE136.out) | exact HB.out)⟩⟩
 case rest =>
  clear HC2
  try clear c2
  try clear p2
  try clear c5
  try clear hcz6_0
  try clear hcz6_1
  try clear hcz7_0
  try clear hcz7_1
  try clear hfz6_0
  try clear hfz6_1
  try clear hfz7_0
  try clear hfz7_1
  obtain ⟨kq,x19_1,rfl,HA,HJ1,BK136,HB⟩:=hcut
  cases kq with
  | zero=>exact absurd HA.out (by simp [spec_GraphOk.j0])
  | succ kj1 =>
   have H:=HA.out
   clear HA
   simp only [spec_GraphOk.j0] at H
   by_cases c8 : x19_1 = true
   ·subst c8
    have H1 : (some false) = some r:=by rw [if_pos rfl] at H;exact H
    clear H
    have H:=H1
    clear H1
    obtain rfl:=Option.some.inj H
    go_wp2
    repeat (go_quiet (fail);try go_wp2)
    go_ret
    exact ⟨by first | rfl | (simp [errW_none,errW_some] <;> rfl) | (simp [*,errW_none,errW_some] <;> rfl),by repeat (first | (with_reducible first | exact HB.out | apply below_alloc | apply pw_below_drewN | apply below_drew1 | refine below_set ?_ GE136.out) | exact HB.out)⟩
   ·replace c8:=Bool.eq_false_iff.mpr c8
    subst c8
    have H1 : (spec_GraphOk.l0 kj1 l0_1 (l0_1.length : Int) 0 a0_0 l0_1) = some r:=by rw [if_neg (show ¬ (false = true) by decide)] at H;exact H
    clear H
    have H:=H1
    clear H1
    have H':=Aside0.mk H
    clear H
    have hcz9_0 : wc.cell? ⟨gb136,0,none⟩ = some (.int .i64 a0_0):=(blk_cell BK136.out 0).trans rfl
    have hcz9_1 : wc.cell? ⟨gb136,1,none⟩ = some (.slice A0_1 l0_1.length c0_1):=(blk_cell BK136.out 1).trans rfl
    have hfz9_0:=blk_frozen BK136.out 0
    have hfz9_1:=blk_frozen BK136.out 1
    go_wp2
    repeat (go_quiet (fail);try go_wp2)
    go_loopg [23] kj1 (fun kq v23 w'=>∃ (x23_2 : Int),v23 = .int .i64 x23_2 ∧ Aside0 (spec_GraphOk.l0 kq l0_1 (l0_1.length : Int) x23_2 a0_0 l0_1 = some r) ∧ Aside0 (kq ≤ kj1) ∧ Aside0 (w'.heap[gb136]? = some (.cells #[.int .i64 a0_0,(.slice A0_1 l0_1.length c0_1)] 24 (0,0))) ∧ Aside0 (Below w.heap.size w w'))
    case atStart=>exact ⟨(0),(by first | rfl | (simp;done) | (simp [*];done)),H',⟨Nat.le_refl _⟩,⟨by (with_reducible repeat (first | refine blk_drewN ?_ _ | refine blk_drew ?_ | refine blk_alloc ?_ _));exact BK136.out⟩,⟨by repeat (first | (with_reducible first | exact HB.out | apply below_alloc | apply pw_below_drewN | apply below_drew1 | refine below_set ?_ GE136.out) | exact HB.out)⟩⟩
    case round =>
     clear H'
     try clear c2
     try clear p2
     try clear c5
     try clear c8
     try clear hcz6_0
     try clear hcz6_1
     try clear hcz7_0
     try clear hcz7_1
     try clear hcz9_0
     try clear hcz9_1
     try clear hfz6_0
     try clear hfz6_1
     try clear hfz7_0
     try clear hfz7_1
     try clear hfz9_0
     try clear hfz9_1
     try clear p2
     obtain ⟨x23_2,rfl,HA,HK2,BK136,HB⟩:=hrel
     cases gk with
     | zero=>exact absurd HA.out (by simp [spec_GraphOk.l0])
     | succ k2 =>
      have H:=HA.out
      clear HA
      simp only [spec_GraphOk.l0] at H
      by_cases c10 : x23_2 < (l0_1.length : Int)
      ·rw [if_pos c10] at H
       have c10b0 : decide (x23_2 < (l0_1.length : Int)) = true:=decide_eq_true c10
       clear c10
       by_cases c11 : 0 ≤ x23_2
       ·rw [if_pos c11] at H
        have c11b0 : decide (0 ≤ x23_2) = true:=decide_eq_true c11
        clear c11
        by_cases c12 : x23_2 < (l0_1.length : Int)
        ·rw [if_pos c12] at H
         have c12b0 : decide (x23_2 < (l0_1.length : Int)) = true:=decide_eq_true c12
         clear c12
         by_cases c13 : 0 ≤ a0_0
         ·rw [if_pos c13] at H
          have c13b0:=eq_true c13
          have c13b1 : decide (0 ≤ a0_0) = true:=decide_eq_true c13
          clear c13
          obtain ⟨ji14,hji14⟩ : ∃ j_ : Int,(shl .i64 1 a0_0) = j_:=⟨_,rfl⟩
          replace H : ((spec_l01In.f (rd l0_1 x23_2) 0 (wrap64 ((ji14) - 1))).bind fun t139=>(if t139 = true then ((spec_l02Has.f (rd l0_1 x23_2) x23_2).bind fun t140=>(if t140 = true then (some false) else (spec_GraphOk.l0 k2 l0_1 (l0_1.length : Int) (wrap64 (x23_2 + 1)) a0_0 l0_1))) else (some false))) = some r:=by first | (rw [hji14] at H;exact H) | (simp only [hji14] at H ⊢;exact H)
          have hji14_ : (IntKind.i64.wrap (1 * 2 ^ min a0_0.toNat 64)) = ji14:=hji14
          have hji14z : a0_0 ≤ 64 → (IntKind.i64.wrap (1 * 2 ^ a0_0.toNat)) = ji14:=shl_small hji14
          have hji14u : (IntKind.i64.wrap (2 ^ min a0_0.toNat 64)) = ji14:=by have h_:=hji14_;rw [Int.one_mul] at h_;exact h_
          have hji14v : a0_0 ≤ 64 → (IntKind.i64.wrap (2 ^ a0_0.toNat)) = ji14:=fun hle_=>by have h_:=hji14z hle_;rw [Int.one_mul] at h_;exact h_
          have hji14y : (wrap64 (1 * 2 ^ min a0_0.toNat 64)) = ji14:=(i64_w _).symm.trans hji14_
          have hji14x : a0_0 ≤ 64 → (wrap64 (1 * 2 ^ a0_0.toNat)) = ji14:=fun h_=>(i64_w _).symm.trans (hji14z h_)
          replace H:=Option.bind_eq_some_iff.mp H
          obtain ⟨t139,A150,H⟩:=H
          replace H : (if t139 = true then ((spec_l02Has.f (rd l0_1 x23_2) x23_2).bind fun t140=>(if t140 = true then (some false) else (spec_GraphOk.l0 k2 l0_1 (l0_1.length : Int) (wrap64 (x23_2 + 1)) a0_0 l0_1))) else (some false)) = some r:=H
          have A15:=Aside0.mk A150
          clear A150
          by_cases c16 : t139 = true
          ·subst c16
           have H1 : ((spec_l02Has.f (rd l0_1 x23_2) x23_2).bind fun t140=>(if t140 = true then (some false) else (spec_GraphOk.l0 k2 l0_1 (l0_1.length : Int) (wrap64 (x23_2 + 1)) a0_0 l0_1))) = some r:=by rw [if_pos rfl] at H;exact H
           clear H
           have H:=H1
           clear H1
           replace H:=Option.bind_eq_some_iff.mp H
           obtain ⟨t140,A170,H⟩:=H
           replace H : (if t140 = true then (some false) else (spec_GraphOk.l0 k2 l0_1 (l0_1.length : Int) (wrap64 (x23_2 + 1)) a0_0 l0_1)) = some r:=H
           have A17:=Aside0.mk A170
           clear A170
           by_cases c18 : t140 = true
           ·subst c18
            have H1 : (some false) = some r:=by rw [if_pos rfl] at H;exact H
            clear H
            have H:=H1
            clear H1
            obtain rfl:=Option.some.inj H
            have p138 : 0 ≤ (x23_2 : Int):=of_decide_eq_true (by first | (with_reducible assumption) | assumption)
            have q138 : x23_2 < (l0_1.length : Int):=of_decide_eq_true (by first | (with_reducible assumption) | assumption)
            obtain ⟨ad138,e138,hx138_0⟩:=Kd.at_int HR0_1.out x23_2 p138 q138
            cases e138
            replace hx138_0:=(HB.out.cell (World.block_lt_of_cell? w _ hx138_0)).trans hx138_0
            replace p138:=eq_true p138
            replace q138:=eq_true q138
            have hcz19_0 : wr.cell? ⟨gb136,0,none⟩ = some (.int .i64 a0_0):=(blk_cell BK136.out 0).trans rfl
            have hcz19_1 : wr.cell? ⟨gb136,1,none⟩ = some (.slice (some ad138) l0_1.length c0_1):=(blk_cell BK136.out 1).trans rfl
            have hfz19_0:=blk_frozen BK136.out 0
            have hfz19_1:=blk_frozen BK136.out 1
            go_wp2_with (first | (go_at_call 26;(with_reducible refine (spec_l01In.calls (rd l0_1 x23_2) 0 (wrap64 ((ji14) - 1)) true _ A15.out).mono ?_);rintro e w' ⟨rfl,⟨nd,rfl⟩⟩;(try first | exact ⟨rfl,_,World.drewN_drewN _ _ _⟩ | exact ⟨rfl,_,Eq.trans (World.drewN_drewN _ _ _) (congrArg (World.drewN _) (Nat.add_assoc _ _ _))⟩)) | (go_at_call 42;(with_reducible refine (spec_l02Has.calls (rd l0_1 x23_2) x23_2 true _ A17.out).mono ?_);rintro e w' ⟨rfl,⟨nd,rfl⟩⟩;(try first | exact ⟨rfl,_,World.drewN_drewN _ _ _⟩ | exact ⟨rfl,_,Eq.trans (World.drewN_drewN _ _ _) (congrArg (World.drewN _) (Nat.add_assoc _ _ _))⟩)))
            repeat (go_quiet (first | (go_at_call 26;(with_reducible refine (spec_l01In.calls (rd l0_1 x23_2) 0 (wrap64 ((ji14) - 1)) true _ A15.out).mono ?_);rintro e w' ⟨rfl,⟨nd,rfl⟩⟩;(try first | exact ⟨rfl,_,World.drewN_drewN _ _ _⟩ | exact ⟨rfl,_,Eq.trans (World.drewN_drewN _ _ _) (congrArg (World.drewN _) (Nat.add_assoc _ _ _))⟩)) | (go_at_call 42;(with_reducible refine (spec_l02Has.calls (rd l0_1 x23_2) x23_2 true _ A17.out).mono ?_);rintro e w' ⟨rfl,⟨nd,rfl⟩⟩;(try first | exact ⟨rfl,_,World.drewN_drewN _ _ _⟩ | exact ⟨rfl,_,Eq.trans (World.drewN_drewN _ _ _) (congrArg (World.drewN _) (Nat.add_assoc _ _ _))⟩)));try go_wp2_with (first | (go_at_call 26;(with_reducible refine (spec_l01In.calls (rd l0_1 x23_2) 0 (wrap64 ((ji14) - 1)) true _ A15.out).mono ?_);rintro e w' ⟨rfl,⟨nd,rfl⟩⟩;(try first | exact ⟨rfl,_,World.drewN_drewN _ _ _⟩ | exact ⟨rfl,_,Eq.trans (World.drewN_drewN _ _ _) (congrArg (World.drewN _) (Nat.add_assoc _ _ _))⟩)) | (go_at_call 42;(with_reducible refine (spec_l02Has.calls (rd l0_1 x23_2) x23_2 true _ A17.out).mono ?_);rintro e w' ⟨rfl,⟨nd,rfl⟩⟩;(try first | exact ⟨rfl,_,World.drewN_drewN _ _ _⟩ | exact ⟨rfl,_,Eq.trans (World.drewN_drewN _ _ _) (congrArg (World.drewN _) (Nat.add_assoc _ _ _))⟩))))
            go_ret
            exact ⟨by first | rfl | (simp [errW_none,errW_some] <;> rfl) | (simp only [← hji14];first | rfl | (simp [errW_none,errW_some] <;> rfl)) | (simp [*,errW_none,errW_some] <;> rfl),by repeat (first | (with_reducible first | exact HB.out | apply below_alloc | apply pw_below_drewN | apply below_drew1 | refine below_set ?_ GE136.out) | exact HB.out)⟩
           ·replace c18:=Bool.eq_false_iff.mpr c18
            subst c18
            have H1 : (spec_GraphOk.l0 k2 l0_1 (l0_1.length : Int) (wrap64 (x23_2 + 1)) a0_0 l0_1) = some r:=by rw [if_neg (show ¬ (false = true) by decide)] at H;exact H
            clear H
            have H:=H1
            clear H1
            have H':=Aside0.mk H
            clear H
            have p138 : 0 ≤ (x23_2 : Int):=of_decide_eq_true (by first | (with_reducible assumption) | assumption)
            have q138 : x23_2 < (l0_1.length : Int):=of_decide_eq_true (by first | (with_reducible assumption) | assumption)
            obtain ⟨ad138,e138,hx138_0⟩:=Kd.at_int HR0_1.out x23_2 p138 q138
            cases e138
            replace hx138_0:=(HB.out.cell (World.block_lt_of_cell? w _ hx138_0)).trans hx138_0
            replace p138:=eq_true p138
            replace q138:=eq_true q138
            have hcz20_0 : wr.cell? ⟨gb136,0,none⟩ = some (.int .i64 a0_0):=(blk_cell BK136.out 0).trans rfl
            have hcz20_1 : wr.cell? ⟨gb136,1,none⟩ = some (.slice (some ad138) l0_1.length c0_1):=(blk_cell BK136.out 1).trans rfl
            have hfz20_0:=blk_frozen BK136.out 0
            have hfz20_1:=blk_frozen BK136.out 1
            go_wp2_with (first | (go_at_call 26;(with_reducible refine (spec_l01In.calls (rd l0_1 x23_2) 0 (wrap64 ((ji14) - 1)) true _ A15.out).mono ?_);rintro e w' ⟨rfl,⟨nd,rfl⟩⟩;(try first | exact ⟨rfl,_,World.drewN_drewN _ _ _⟩ | exact ⟨rfl,_,Eq.trans (World.drewN_drewN _ _ _) (congrArg (World.drewN _) (Nat.add_assoc _ _ _))⟩)) | (go_at_call 42;(with_reducible refine (spec_l02Has.calls (rd l0_1 x23_2) x23_2 false _ A17.out).mono ?_);rintro e w' ⟨rfl,⟨nd,rfl⟩⟩;(try first | exact ⟨rfl,_,World.drewN_drewN _ _ _⟩ | exact ⟨rfl,_,Eq.trans (World.drewN_drewN _ _ _) (congrArg (World.drewN _) (Nat.add_assoc _ _ _))⟩)))
            repeat (go_quiet (first | (go_at_call 26;(with_reducible refine (spec_l01In.calls (rd l0_1 x23_2) 0 (wrap64 ((ji14) - 1)) true _ A15.out).mono ?_);rintro e w' ⟨rfl,⟨nd,rfl⟩⟩;(try first | exact ⟨rfl,_,World.drewN_drewN _ _ _⟩ | exact ⟨rfl,_,Eq.trans (World.drewN_drewN _ _ _) (congrArg (World.drewN _) (Nat.add_assoc _ _ _))⟩)) | (go_at_call 42;(with_reducible refine (spec_l02Has.calls (rd l0_1 x23_2) x23_2 false _ A17.out).mono ?_);rintro e w' ⟨rfl,⟨nd,rfl⟩⟩;(try first | exact ⟨rfl,_,World.drewN_drewN _ _ _⟩ | exact ⟨rfl,_,Eq.trans (World.drewN_drewN _ _ _) (congrArg (World.drewN _) (Nat.add_assoc _ _ _))⟩)));try go_wp2_with (first | (go_at_call 26;(with_reducible refine (spec_l01In.calls (rd l0_1 x23_2) 0 (wrap64 ((ji14) - 1)) true _ A15.out).mono ?_);rintro e w' ⟨rfl,⟨nd,rfl⟩⟩;(try first | exact ⟨rfl,_,World.drewN_drewN _ _ _⟩ | exact ⟨rfl,_,Eq.trans (World.drewN_drewN _ _ _) (congrArg (World.drewN _) (Nat.add_assoc _ _ _))⟩)) | (go_at_call 42;(with_reducible refine (spec_l02Has.calls (rd l0_1 x23_2) x23_2 false _ A17.out).mono ?_);rintro e w' ⟨rfl,⟨nd,rfl⟩⟩;(try first | exact ⟨rfl,_,World.drewN_drewN _ _ _⟩ | exact ⟨rfl,_,Eq.trans (World.drewN_drewN _ _ _) (congrArg (World.drewN _) (Nat.add_assoc _ _ _))⟩))))
            go_roundg k2
            case measure=>have:=HJ1.out;have:=HK2.out;omega
            case rel=>exact ⟨(wrap64 (x23_2 + 1)),(by first | rfl | (simp;done) | (simp [*];done)),H',⟨by have:=HJ1.out;have:=HK2.out;omega⟩,⟨by (with_reducible repeat (first | refine blk_drewN ?_ _ | refine blk_drew ?_ | refine blk_alloc ?_ _));exact BK136.out⟩,⟨by repeat (first | (with_reducible first | exact HB.out | apply below_alloc | apply pw_below_drewN | apply below_drew1 | refine below_set ?_ GE136.out) | exact HB.out)⟩⟩
          ·replace c16:=Bool.eq_false_iff.mpr c16
           subst c16
           have H1 : (some false) = some r:=by rw [if_neg (show ¬ (false = true) by decide)] at H;exact H
           clear H
           have H:=H1
           clear H1
           obtain rfl:=Option.some.inj H
           have p138 : 0 ≤ (x23_2 : Int):=of_decide_eq_true (by first | (with_reducible assumption) | assumption)
           have q138 : x23_2 < (l0_1.length : Int):=of_decide_eq_true (by first | (with_reducible assumption) | assumption)
           obtain ⟨ad138,e138,hx138_0⟩:=Kd.at_int HR0_1.out x23_2 p138 q138
           cases e138
           replace hx138_0:=(HB.out.cell (World.block_lt_of_cell? w _ hx138_0)).trans hx138_0
           replace p138:=eq_true p138
           replace q138:=eq_true q138
           have hcz21_0 : wr.cell? ⟨gb136,0,none⟩ = some (.int .i64 a0_0):=(blk_cell BK136.out 0).trans rfl
           have hcz21_1 : wr.cell? ⟨gb136,1,none⟩ = some (.slice (some ad138) l0_1.length c0_1):=(blk_cell BK136.out 1).trans rfl
           have hfz21_0:=blk_frozen BK136.out 0
           have hfz21_1:=blk_frozen BK136.out 1
           go_wp2_with (first | (go_at_call 26;(with_reducible refine (spec_l01In.calls (rd l0_1 x23_2) 0 (wrap64 ((ji14) - 1)) false _ A15.out).mono ?_);rintro e w' ⟨rfl,⟨nd,rfl⟩⟩;(try first | exact ⟨rfl,_,World.drewN_drewN _ _ _⟩ | exact ⟨rfl,_,Eq.trans (World.drewN_drewN _ _ _) (congrArg (World.drewN _) (Nat.add_assoc _ _ _))⟩)))
           repeat (go_quiet (first | (go_at_call 26;(with_reducible refine (spec_l01In.calls (rd l0_1 x23_2) 0 (wrap64 ((ji14) - 1)) false _ A15.out).mono ?_);rintro e w' ⟨rfl,⟨nd,rfl⟩⟩;(try first | exact ⟨rfl,_,World.drewN_drewN _ _ _⟩ | exact ⟨rfl,_,Eq.trans (World.drewN_drewN _ _ _) (congrArg (World.drewN _) (Nat.add_assoc _ _ _))⟩)));try go_wp2_with (first | (go_at_call 26;(with_reducible refine (spec_l01In.calls (rd l0_1 x23_2) 0 (wrap64 ((ji14) - 1)) false _ A15.out).mono ?_);rintro e w' ⟨rfl,⟨nd,rfl⟩⟩;(try first | exact ⟨rfl,_,World.drewN_drewN _ _ _⟩ | exact ⟨rfl,_,Eq.trans (World.drewN_drewN _ _ _) (congrArg (World.drewN _) (Nat.add_assoc _ _ _))⟩))))
           go_ret
           exact ⟨by first | rfl | (simp [errW_none,errW_some] <;> rfl) | (simp only [← hji14];first | rfl | (simp [errW_none,errW_some] <;> rfl)) | (simp [*,errW_none,errW_some] <;> rfl),by repeat (first | (with_reducible first | exact HB.out | apply below_alloc | apply pw_below_drewN | apply below_drew1 | refine below_set ?_ GE136.out) | exact HB.out)⟩
         ·rw [if_neg c13] at H
          exact absurd H (by simp)
        ·rw [if_neg c12] at H
         exact absurd H (by simp)
       ·rw [if_neg c11] at H
        exact absurd H (by simp)
      ·rw [if_neg c10] at H
       have c10b0 : decide (x23_2 < (l0_1.length : Int)) = false:=decide_eq_false c10
       clear c10
       have H':=Aside0.mk H
       clear H
       have hcz22_0 : wr.cell? ⟨gb136,0,none⟩ = some (.int .i64 a0_0):=(blk_cell BK136.out 0).trans rfl
       have hcz22_1 : wr.cell? ⟨gb136,1,none⟩ = some (.slice A0_1 l0_1.length c0_1):=(blk_cell BK136.out 1).trans rfl
       have hfz22_0:=blk_frozen BK136.out 0
       have hfz22_1:=blk_frozen BK136.out 1
       go_wp2
       repeat (go_quiet (fail);try go_wp2)
       go_loopg [44] k2 (fun kq v44 w'=>∃ (x44_3 : Int),v44 = .int .i64 x44_3 ∧ Aside0 (spec_GraphOk.l1 kq l0_1 (l0_1.length : Int) x44_3 a0_0 l0_1 = some r) ∧ Aside0 (kq ≤ k2) ∧ Aside0 (w'.heap[gb136]? = some (.cells #[.int .i64 a0_0,(.slice A0_1 l0_1.length c0_1)] 24 (0,0))) ∧ Aside0 (Below w.heap.size w w'))
       case atStart=>exact ⟨(0),(by first | rfl | (simp;done) | (simp [*];done)),H',⟨Nat.le_refl _⟩,⟨by (with_reducible repeat (first | refine blk_drewN ?_ _ | refine blk_drew ?_ | refine blk_alloc ?_ _));exact BK136.out⟩,⟨by repeat (first | (with_reducible first | exact HB.out | apply below_alloc | apply pw_below_drewN | apply below_drew1 | refine below_set ?_ GE136.out) | exact HB.out)⟩⟩
       case round =>
        clear H'
        try clear c1
        try clear p1
        try clear q1
        try clear hx1
        try clear c2
        try clear p2
        try clear c5
        try clear p6
        try clear c8
        try clear c10
        try clear c10b0
        try clear c11
        try clear c11b0
        try clear c12
        try clear c12b0
        try clear c13
        try clear c13b0
        try clear c13b1
        try clear p13
        try clear q13
        try clear hx13
        try clear c16
        try clear c18
        try clear hcz19_0
        try clear hcz19_1
        try clear hcz20_0
        try clear hcz20_1
        try clear hcz21_0
        try clear hcz21_1
        try clear hcz22_0
        try clear hcz22_1
        try clear hcz6_0
        try clear hcz6_1
        try clear hcz7_0
        try clear hcz7_1
        try clear hcz9_0
        try clear hcz9_1
        try clear hfz19_0
        try clear hfz19_1
        try clear hfz20_0
        try clear hfz20_1
        try clear hfz21_0
        try clear hfz21_1
        try clear hfz22_0
        try clear hfz22_1
        try clear hfz6_0
        try clear hfz6_1
        try clear hfz7_0
        try clear hfz7_1
        try clear hfz9_0
        try clear hfz9_1
        try clear hx138_0
        try clear p138
        try clear p2
        try clear q138
        obtain ⟨x44_3,rfl,HA,HK3,BK136,HB⟩:=hrel
        cases gk with
        | zero=>exact absurd HA.out (by simp [spec_GraphOk.l1])
        | succ k3 =>
         have H:=HA.out
         clear HA
         simp only [spec_GraphOk.l1] at H
         by_cases c23 : x44_3 < (l0_1.length : Int)
         ·rw [if_pos c23] at H
          have c23b0 : decide (x44_3 < (l0_1.length : Int)) = true:=decide_eq_true c23
          clear c23
          by_cases c24 : 0 ≤ x44_3
          ·rw [if_pos c24] at H
           have c24b0 : decide (0 ≤ x44_3) = true:=decide_eq_true c24
           clear c24
           by_cases c25 : x44_3 < (l0_1.length : Int)
           ·rw [if_pos c25] at H
            have c25b0 : decide (x44_3 < (l0_1.length : Int)) = true:=decide_eq_true c25
            clear c25
            have H':=Aside0.mk H
            clear H
            have p141 : 0 ≤ (x44_3 : Int):=of_decide_eq_true (by first | (with_reducible assumption) | assumption)
            have q141 : x44_3 < (l0_1.length : Int):=of_decide_eq_true (by first | (with_reducible assumption) | assumption)
            obtain ⟨ad141,e141,hx141_0⟩:=Kd.at_int HR0_1.out x44_3 p141 q141
            cases e141
            replace hx141_0:=(HB.out.cell (World.block_lt_of_cell? w _ hx141_0)).trans hx141_0
            replace p141:=eq_true p141
            replace q141:=eq_true q141
            have hcz26_0 : wr.cell? ⟨gb136,0,none⟩ = some (.int .i64 a0_0):=(blk_cell BK136.out 0).trans rfl
            have hcz26_1 : wr.cell? ⟨gb136,1,none⟩ = some (.slice (some ad141) l0_1.length c0_1):=(blk_cell BK136.out 1).trans rfl
            have hfz26_0:=blk_frozen BK136.out 0
            have hfz26_1:=blk_frozen BK136.out 1
            go_wp2
            repeat (go_quiet (fail);try go_wp2)
            go_loopg [52] k3 (fun kq v52 w'=>∃ (x52_4 : Int),v52 = .int .i64 x52_4 ∧ Aside0 (spec_GraphOk.l2 kq x44_3 (rd l0_1 x44_3) l0_1 (l0_1.length : Int) x44_3 (l0_1.length : Int) x52_4 a0_0 l0_1 = some r) ∧ Aside0 (kq ≤ k3) ∧ Aside0 (w'.heap[gb136]? = some (.cells #[.int .i64 a0_0,(.slice (some ad141) l0_1.length c0_1)] 24 (0,0))) ∧ Aside0 (Below w.heap.size w w'))
            case atStart=>exact ⟨(0),(by first | rfl | (simp;done) | (simp [*];done)),H',⟨Nat.le_refl _⟩,⟨by (with_reducible repeat (first | refine blk_drewN ?_ _ | refine blk_drew ?_ | refine blk_alloc ?_ _));exact BK136.out⟩,⟨by repeat (first | (with_reducible first | exact HB.out | apply below_alloc | apply pw_below_drewN | apply below_drew1 | refine below_set ?_ GE136.out) | exact HB.out)⟩⟩
            case round =>
             clear H'
             try clear c1
             try clear p1
             try clear q1
             try clear hx1
             try clear c2
             try clear p2
             try clear c5
             try clear p6
             try clear c8
             try clear c10
             try clear c10b0
             try clear c11
             try clear c11b0
             try clear c12
             try clear c12b0
             try clear c13
             try clear c13b0
             try clear c13b1
             try clear p13
             try clear q13
             try clear hx13
             try clear p14
             try clear q14
             try clear hx14
             try clear c16
             try clear c18
             try clear c23
             try clear c23b0
             try clear c24
             try clear c24b0
             try clear c25
             try clear c25b0
             try clear hcz19_0
             try clear hcz19_1
             try clear hcz20_0
             try clear hcz20_1
             try clear hcz21_0
             try clear hcz21_1
             try clear hcz22_0
             try clear hcz22_1
             try clear hcz26_0
             try clear hcz26_1
             try clear hcz6_0
             try clear hcz6_1
             try clear hcz7_0
             try clear hcz7_1
             try clear hcz9_0
             try clear hcz9_1
             try clear hfz19_0
             try clear hfz19_1
             try clear hfz20_0
             try clear hfz20_1
             try clear hfz21_0
             try clear hfz21_1
             try clear hfz22_0
             try clear hfz22_1
             try clear hfz26_0
             try clear hfz26_1
             try clear hfz6_0
             try clear hfz6_1
             try clear hfz7_0
             try clear hfz7_1
             try clear hfz9_0
             try clear hfz9_1
             try clear hx138_0
             try clear hx141_0
             try clear p1
             try clear p13
             try clear p138
             try clear p141
             try clear p2
             try clear p6
             try clear q1
             try clear q13
             try clear q138
             try clear q141
             obtain ⟨x52_4,rfl,HA,HK4,BK136,HB⟩:=hrel
             cases gk with
             | zero=>exact absurd HA.out (by simp [spec_GraphOk.l2])
             | succ k4 =>
              have H:=HA.out
              clear HA
              simp only [spec_GraphOk.l2] at H
              by_cases c27 : x52_4 < (l0_1.length : Int)
              ·rw [if_pos c27] at H
               have c27b0 : decide (x52_4 < (l0_1.length : Int)) = true:=decide_eq_true c27
               clear c27
               replace H:=Option.bind_eq_some_iff.mp H
               obtain ⟨t142,A280,H⟩:=H
               replace H : (if 0 ≤ x52_4 then (if x52_4 < (l0_1.length : Int) then ((spec_l02Has.f (rd l0_1 x52_4) x44_3).bind fun t144=>(if (t142 != t144) = true then (some false) else (spec_GraphOk.l2 k4 x44_3 (rd l0_1 x44_3) l0_1 (l0_1.length : Int) x44_3 (l0_1.length : Int) (wrap64 (x52_4 + 1)) a0_0 l0_1))) else (none)) else (none)) = some r:=H
               have A28:=Aside0.mk A280
               clear A280
               by_cases c29 : 0 ≤ x52_4
               ·rw [if_pos c29] at H
                have c29b0 : decide (0 ≤ x52_4) = true:=decide_eq_true c29
                clear c29
                by_cases c30 : x52_4 < (l0_1.length : Int)
                ·rw [if_pos c30] at H
                 have c30b0 : decide (x52_4 < (l0_1.length : Int)) = true:=decide_eq_true c30
                 clear c30
                 replace H:=Option.bind_eq_some_iff.mp H
                 obtain ⟨t144,A310,H⟩:=H
                 replace H : (if (t142 != t144) = true then (some false) else (spec_GraphOk.l2 k4 x44_3 (rd l0_1 x44_3) l0_1 (l0_1.length : Int) x44_3 (l0_1.length : Int) (wrap64 (x52_4 + 1)) a0_0 l0_1)) = some r:=H
                 have A31:=Aside0.mk A310
                 clear A310
                 by_cases c32 : (t142 != t144) = true
                 ·rw [if_pos c32] at H
                  have c32b0 : (t142 != t144) = true:=c32
                  (try (have c32b1 : decide (t142 = t144) = false:=by simpa using c32))
                  (try (have c32b2 : (t142 == t144) = false:=by simpa using c32))
                  (try (have c32b3 : ¬ (t142 = t144):=by simpa using c32))
                  clear c32
                  obtain rfl:=Option.some.inj H
                  go_wp2_with (first | (go_at_call 42;(with_reducible refine (spec_l02Has.calls (rd l0_1 x44_3) x52_4 t142 _ A28.out).mono ?_);rintro e w' ⟨rfl,⟨nd,rfl⟩⟩;(try first | exact ⟨rfl,_,World.drewN_drewN _ _ _⟩ | exact ⟨rfl,_,Eq.trans (World.drewN_drewN _ _ _) (congrArg (World.drewN _) (Nat.add_assoc _ _ _))⟩);have hcz33_0 : wr.cell? ⟨gb136,0,none⟩ = some (.int .i64 a0_0):=(blk_cell BK136.out 0).trans rfl;have hcz33_1 : wr.cell? ⟨gb136,1,none⟩ = some (.slice (some ad141) l0_1.length c0_1):=(blk_cell BK136.out 1).trans rfl;have hfz33_0:=blk_frozen BK136.out 0;have hfz33_1:=blk_frozen BK136.out 1;have p143 : 0 ≤ (x52_4 : Int):=of_decide_eq_true (by first | (with_reducible assumption) | assumption);have q143 : x52_4 < (l0_1.length : Int):=of_decide_eq_true (by first | (with_reducible assumption) | assumption);obtain ⟨ad143,e143,hx143_0⟩:=Kd.at_int HR0_1.out x52_4 p143 q143;obtain rfl : ad141 = ad143:=(by injection e143);replace hx143_0:=(HB.out.cell (World.block_lt_of_cell? w _ hx143_0)).trans hx143_0;replace p143:=eq_true p143;replace q143:=eq_true q143) | (go_at_call 42;(with_reducible refine (spec_l02Has.calls (rd l0_1 x52_4) x44_3 t144 _ A31.out).mono ?_);rintro e w' ⟨rfl,⟨nd,rfl⟩⟩;(try first | exact ⟨rfl,_,World.drewN_drewN _ _ _⟩ | exact ⟨rfl,_,Eq.trans (World.drewN_drewN _ _ _) (congrArg (World.drewN _) (Nat.add_assoc _ _ _))⟩)))
                  repeat (go_quiet (first | (go_at_call 42;(with_reducible refine (spec_l02Has.calls (rd l0_1 x44_3) x52_4 t142 _ A28.out).mono ?_);rintro e w' ⟨rfl,⟨nd,rfl⟩⟩;(try first | exact ⟨rfl,_,World.drewN_drewN _ _ _⟩ | exact ⟨rfl,_,Eq.trans (World.drewN_drewN _ _ _) (congrArg (World.drewN _) (Nat.add_assoc _ _ _))⟩);have hcz33_0 : wr.cell? ⟨gb136,0,none⟩ = some (.int .i64 a0_0):=(blk_cell BK136.out 0).trans rfl;have hcz33_1 : wr.cell? ⟨gb136,1,none⟩ = some (.slice (some ad141) l0_1.length c0_1):=(blk_cell BK136.out 1).trans rfl;have hfz33_0:=blk_frozen BK136.out 0;have hfz33_1:=blk_frozen BK136.out 1;have p143 : 0 ≤ (x52_4 : Int):=of_decide_eq_true (by first | (with_reducible assumption) | assumption);have q143 : x52_4 < (l0_1.length : Int):=of_decide_eq_true (by first | (with_reducible assumption) | assumption);obtain ⟨ad143,e143,hx143_0⟩:=Kd.at_int HR0_1.out x52_4 p143 q143;obtain rfl : ad141 = ad143:=(by injection e143);replace hx143_0:=(HB.out.cell (World.block_lt_of_cell? w _ hx143_0)).trans hx143_0;replace p143:=eq_true p143;replace q143:=eq_true q143) | (go_at_call 42;(with_reducible refine (spec_l02Has.calls (rd l0_1 x52_4) x44_3 t144 _ A31.out).mono ?_);rintro e w' ⟨rfl,⟨nd,rfl⟩⟩;(try first | exact ⟨rfl,_,World.drewN_drewN _ _ _⟩ | exact ⟨rfl,_,Eq.trans (World.drewN_drewN _ _ _) (congrArg (World.drewN _) (Nat.add_assoc _ _ _))⟩)));try go_wp2_with (first | (go_at_call 42;(with_reducible refine (spec_l02Has.calls (rd l0_1 x44_3) x52_4 t142 _ A28.out).mono ?_);rintro e w' ⟨rfl,⟨nd,rfl⟩⟩;(try first | exact ⟨rfl,_,World.drewN_drewN _ _ _⟩ | exact ⟨rfl,_,Eq.trans (World.drewN_drewN _ _ _) (congrArg (World.drewN _) (Nat.add_assoc _ _ _))⟩);have hcz33_0 : wr.cell? ⟨gb136,0,none⟩ = some (.int .i64 a0_0):=(blk_cell BK136.out 0).trans rfl;have hcz33_1 : wr.cell? ⟨gb136,1,none⟩ = some (.slice (some ad141) l0_1.length c0_1):=(blk_cell BK136.out 1).trans rfl;have hfz33_0:=blk_frozen BK136.out 0;have hfz33_1:=blk_frozen BK136.out 1;have p143 : 0 ≤ (x52_4 : Int):=of_decide_eq_true (by first | (with_reducible assumption) | assumption);have q143 : x52_4 < (l0_1.length : Int):=of_decide_eq_true (by first | (with_reducible assumption) | assumption);obtain ⟨ad143,e143,hx143_0⟩:=Kd.at_int HR0_1.out x52_4 p143 q143;obtain rfl : ad141 = ad143:=(by injection e143);replace hx143_0:=(HB.out.cell (World.block_lt_of_cell? w _ hx143_0)).trans hx143_0;replace p143:=eq_true p143;replace q143:=eq_true q143) | (go_at_call 42;(with_reducible refine (spec_l02Has.calls (rd l0_1 x52_4) x44_3 t144 _ A31.out).mono ?_);rintro e w' ⟨rfl,⟨nd,rfl⟩⟩;(try first | exact ⟨rfl,_,World.drewN_drewN _ _ _⟩ | exact ⟨rfl,_,Eq.trans (World.drewN_drewN _ _ _) (congrArg (World.drewN _) (Nat.add_assoc _ _ _))⟩))))
                  go_ret
                  exact ⟨by first | rfl | (simp [errW_none,errW_some] <;> rfl) | (simp [*,errW_none,errW_some] <;> rfl),by repeat (first | (with_reducible first | exact HB.out | apply below_alloc | apply pw_below_drewN | apply below_drew1 | refine below_set ?_ GE136.out) | exact HB.out)⟩
                 ·rw [if_neg c32] at H
                  have c32b0 : (t142 != t144) = false:=by simpa using c32
                  (try (have c32b1 : decide (t142 = t144) = true:=by simpa using c32))
                  (try (have c32b2 : (t142 == t144) = true:=by simpa using c32))
                  clear c32
                  have H':=Aside0.mk H
                  clear H
                  go_wp2_with (first | (go_at_call 42;(with_reducible refine (spec_l02Has.calls (rd l0_1 x44_3) x52_4 t142 _ A28.out).mono ?_);rintro e w' ⟨rfl,⟨nd,rfl⟩⟩;(try first | exact ⟨rfl,_,World.drewN_drewN _ _ _⟩ | exact ⟨rfl,_,Eq.trans (World.drewN_drewN _ _ _) (congrArg (World.drewN _) (Nat.add_assoc _ _ _))⟩);have hcz34_0 : wr.cell? ⟨gb136,0,none⟩ = some (.int .i64 a0_0):=(blk_cell BK136.out 0).trans rfl;have hcz34_1 : wr.cell? ⟨gb136,1,none⟩ = some (.slice (some ad141) l0_1.length c0_1):=(blk_cell BK136.out 1).trans rfl;have hfz34_0:=blk_frozen BK136.out 0;have hfz34_1:=blk_frozen BK136.out 1;have p143 : 0 ≤ (x52_4 : Int):=of_decide_eq_true (by first | (with_reducible assumption) | assumption);have q143 : x52_4 < (l0_1.length : Int):=of_decide_eq_true (by first | (with_reducible assumption) | assumption);obtain ⟨ad143,e143,hx143_0⟩:=Kd.at_int HR0_1.out x52_4 p143 q143;obtain rfl : ad141 = ad143:=(by injection e143);replace hx143_0:=(HB.out.cell (World.block_lt_of_cell? w _ hx143_0)).trans hx143_0;replace p143:=eq_true p143;replace q143:=eq_true q143) | (go_at_call 42;(with_reducible refine (spec_l02Has.calls (rd l0_1 x52_4) x44_3 t144 _ A31.out).mono ?_);rintro e w' ⟨rfl,⟨nd,rfl⟩⟩;(try first | exact ⟨rfl,_,World.drewN_drewN _ _ _⟩ | exact ⟨rfl,_,Eq.trans (World.drewN_drewN _ _ _) (congrArg (World.drewN _) (Nat.add_assoc _ _ _))⟩)))
                  repeat (go_quiet (first | (go_at_call 42;(with_reducible refine (spec_l02Has.calls (rd l0_1 x44_3) x52_4 t142 _ A28.out).mono ?_);rintro e w' ⟨rfl,⟨nd,rfl⟩⟩;(try first | exact ⟨rfl,_,World.drewN_drewN _ _ _⟩ | exact ⟨rfl,_,Eq.trans (World.drewN_drewN _ _ _) (congrArg (World.drewN _) (Nat.add_assoc _ _ _))⟩);have hcz34_0 : wr.cell? ⟨gb136,0,none⟩ = some (.int .i64 a0_0):=(blk_cell BK136.out 0).trans rfl;have hcz34_1 : wr.cell? ⟨gb136,1,none⟩ = some (.slice (some ad141) l0_1.length c0_1):=(blk_cell BK136.out 1).trans rfl;have hfz34_0:=blk_frozen BK136.out 0;have hfz34_1:=blk_frozen BK136.out 1;have p143 : 0 ≤ (x52_4 : Int):=of_decide_eq_true (by first | (with_reducible assumption) | assumption);have q143 : x52_4 < (l0_1.length : Int):=of_decide_eq_true (by first | (with_reducible assumption) | assumption);obtain ⟨ad143,e143,hx143_0⟩:=Kd.at_int HR0_1.out x52_4 p143 q143;obtain rfl : ad141 = ad143:=(by injection e143);replace hx143_0:=(HB.out.cell (World.block_lt_of_cell? w _ hx143_0)).trans hx143_0;replace p143:=eq_true p143;replace q143:=eq_true q143) | (go_at_call 42;(with_reducible refine (spec_l02Has.calls (rd l0_1 x52_4) x44_3 t144 _ A31.out).mono ?_);rintro e w' ⟨rfl,⟨nd,rfl⟩⟩;(try first | exact ⟨rfl,_,World.drewN_drewN _ _ _⟩ | exact ⟨rfl,_,Eq.trans (World.drewN_drewN _ _ _) (congrArg (World.drewN _) (Nat.add_assoc _ _ _))⟩)));try go_wp2_with (first | (go_at_call 42;(with_reducible refine (spec_l02Has.calls (rd l0_1 x44_3) x52_4 t142 _ A28.out).mono ?_);rintro e w' ⟨rfl,⟨nd,rfl⟩⟩;(try first | exact ⟨rfl,_,World.drewN_drewN _ _ _⟩ | exact ⟨rfl,_,Eq.trans (World.drewN_drewN _ _ _) (congrArg (World.drewN _) (Nat.add_assoc _ _ _))⟩);have hcz34_0 : wr.cell? ⟨gb136,0,none⟩ = some (.int .i64 a0_0):=(blk_cell BK136.out 0).trans rfl;have hcz34_1 : wr.cell? ⟨gb136,1,none⟩ = some (.slice (some ad141) l0_1.length c0_1):=(blk_cell BK136.out 1).trans rfl;have hfz34_0:=blk_frozen BK136.out 0;have hfz34_1:=blk_frozen BK136.out 1;have p143 : 0 ≤ (x52_4 : Int):=of_decide_eq_true (by first | (with_reducible assumption) | assumption);have q143 : x52_4 < (l0_1.length : Int):=of_decide_eq_true (by first | (with_reducible assumption) | assumption);obtain ⟨ad143,e143,hx143_0⟩:=Kd.at_int HR0_1.out x52_4 p143 q143;obtain rfl : ad141 = ad143:=(by injection e143);replace hx143_0:=(HB.out.cell (World.block_lt_of_cell? w _ hx143_0)).trans hx143_0;replace p143:=eq_true p143;replace q143:=eq_true q143) | (go_at_call 42;(with_reducible refine (spec_l02Has.calls (rd l0_1 x52_4) x44_3 t144 _ A31.out).mono ?_);rintro e w' ⟨rfl,⟨nd,rfl⟩⟩;(try first | exact ⟨rfl,_,World.drewN_drewN _ _ _⟩ | exact ⟨rfl,_,Eq.trans (World.drewN_drewN _ _ _) (congrArg (World.drewN _) (Nat.add_assoc _ _ _))⟩))))
                  go_roundg k4
                  case measure=>have:=HJ1.out;have:=HK2.out;have:=HK3.out;have:=HK4.out;omega
                  case rel=>exact ⟨(wrap64 (x52_4 + 1)),(by first | rfl | (simp;done) | (simp [*];done)),H',⟨by have:=HJ1.out;have:=HK2.out;have:=HK3.out;have:=HK4.out;omega⟩,⟨by (with_reducible repeat (first | refine blk_drewN ?_ _ | refine blk_drew ?_ | refine blk_alloc ?_ _));exact BK136.out⟩,⟨by repeat (first | (with_reducible first | exact HB.out | apply below_alloc | apply pw_below_drewN | apply below_drew1 | refine below_set ?_ GE136.out) | exact HB.out)⟩⟩
                ·rw [if_neg c30] at H
                 exact absurd H (by simp)
               ·rw [if_neg c29] at H
                exact absurd H (by simp)
              ·rw [if_neg c27] at H
               have c27b0 : decide (x52_4 < (l0_1.length : Int)) = false:=decide_eq_false c27
               clear c27
               have H':=Aside0.mk H
               clear H
               go_wp2
               repeat (go_quiet (fail);try go_wp2)
               go_roundg k4
               case measure=>have:=HJ1.out;have:=HK2.out;have:=HK3.out;have:=HK4.out;omega
               case rel=>exact ⟨(wrap64 (x44_3 + 1)),(by first | rfl | (simp;done) | (simp [*];done)),H',⟨by have:=HJ1.out;have:=HK2.out;have:=HK3.out;have:=HK4.out;omega⟩,⟨by (with_reducible repeat (first | refine blk_drewN ?_ _ | refine blk_drew ?_ | refine blk_alloc ?_ _));exact BK136.out⟩,⟨by repeat (first | (with_reducible first | exact HB.out | apply below_alloc | apply pw_below_drewN | apply below_drew1 | refine below_set ?_ GE136.out) | exact HB.out)⟩⟩
           ·rw [if_neg c25] at H
            exact absurd H (by simp)
          ·rw [if_neg c24] at H
           exact absurd H (by simp)
         ·rw [if_neg c23] at H
          have c23b0 : decide (x44_3 < (l0_1.length : Int)) = false:=decide_eq_false c23
          clear c23
          obtain rfl:=Option.some.inj H
          go_wp2
          repeat (go_quiet (fail);try go_wp2)
          go_ret
          exact ⟨by first | rfl | (simp [errW_none,errW_some] <;> rfl) | (simp [*,errW_none,errW_some] <;> rfl),by repeat (first | (with_reducible first | exact HB.out | apply below_alloc | apply pw_below_drewN | apply below_drew1 | refine below_set ?_ GE136.out) | exact HB.out)⟩

end Go.Proofs.YthfjphkhpfmdcaaGreatDoor.Q
