/- Made by a program of this session (wip/tools/mkgraphof.py): what impl.graphOf returns, handed a function value whose calls answer by a partial function pE of two numbers; no condition beside that. -/
import Derived.Test.YthfjphkhpfmdcaaGreatDoorMCardFnExactParseGraph0
import Derived.Test.YthfjphkhpfmdcaaGreatDoorQx13N
namespace Go.Proofs.YthfjphkhpfmdcaaGreatDoor.Q
open Go.RowKit Go.Proofs.YthfjphkhpfmdcaaGreatDoorW.PrintWords Go.Proofs.YthfjphkhpfmdcaaGreatDoorW.PrintLast Go.Proofs.YthfjphkhpfmdcaaGreatDoorW.PrintMore
attribute [local go_sem] max2_int min2_int max_two min_two max_three min_three max_four min_four
set_option linter.unusedVariables false
set_option linter.unusedSimpArgs false
section
variable {P : Program} {ops : Array Oper} {Q : Exit → Act → World → Prop} {o : Oper} {rest : List Oper} {a : Act} {W : World}
theorem gate_tmp {t : Tmp} {ys : Array Operand} {ts : Array TypeId} (_ho : o.op = .call { callee:=.value (.tmp t),args:=ys,argTypes:=ts }) (h : wpList P ops Q (o :: rest) a W) : wpList P ops Q (o :: rest) a W:=h
/-- A call of a function value in a plain region: the captured variables' addresses stand behind the arguments. -/
theorem goesF_ {rest : List Oper} {oi : Oper} {a : Act} {w : World} (N : Option Tmp) (hd : oi.dst = N) (hg : oi.guard = none) {c : Operand} {ys : Array Operand} {ts : Array TypeId} (g : FuncId) (caps : Array Value)
  (he : ∀ (xs : Array Value) (W : World),(callFunc g xs).run P W = .ok (.enter g xs) W) (args : Array Value)
  (hop : oi.op = .call { callee:=.value c,args:=ys,argTypes:=ts }) (hc : a.eval c = .func (.func g) #[] caps) (hargs : ys.map a.eval = args)
  (h : Calls P g (args ++ caps) w fun e w'=>∃ v,e = .returned v ∧ wpList P ops Q rest (a.put N v) w') : wpList P ops Q (oi :: rest) a w:=by
 refine wpList_plain hg fun K hK=>?_
 have hrun : (execOp a.eval oi).run P w = .ok (.enter g (args ++ caps)) w:=by
  unfold execOp
  simp [hop,resolve,Deferred.ofValue,invoke,hc,hargs,he]
 unfold Oper.wp
 rw [hrun,Oper.upon_enter]
 refine h.mono fun e w'' hh=>?_
 obtain ⟨v,rfl,hk⟩:=hh
 subst hd
 exact hK _ _ hk
end
/-! ### impl_graphOf: function 32 -/
mutual
def impl_graphOf.l0 (pE : Int → Int → Option Bool) : Nat → Int → Int → Int → List Int → Option (Int × List Int × Bool)
 | 0,_,_,_,_=>none
 | k + 1,x17,x18,x114000,x114001=>if x18 < x17 then (impl_graphOf.l1 pE k x18 x17 x18 x18 0 x114000 x114001) else (some (x114000,x114001,true))
def impl_graphOf.l1 (pE : Int → Int → Option Bool) : Nat → Int → Int → Int → Int → Int → Int → List Int → Option (Int × List Int × Bool)
 | 0,_,_,_,_,_,_,_=>none
 | k + 1,x7,x17,x18,x21,x22,x114000,x114001=>if x22 < x21 then ((pE x22 x7).bind fun t114=>(if t114 = true then ((impl_Graph_join.f x114000 x114001 x22 x7).bind fun t115=>(impl_graphOf.l1 pE k x7 x17 x18 x21 (wrap64 (x22 + 1)) x114000 t115)) else (impl_graphOf.l1 pE k x7 x17 x18 x21 (wrap64 (x22 + 1)) x114000 x114001))) else (impl_graphOf.l0 pE k x17 (wrap64 (x18 + 1)) x114000 x114001)
end
def impl_graphOf.f (pE : Int → Int → Option Bool) (k : Nat) (a0 : Int) : Option (Int × List Int × Bool):=(impl_in.f a0 1 8).bind fun t109=>(if t109 = true then (if 0 ≤ a0 then (if (a0 : Int).toNat ≤ 35184372088832 then (impl_graphOf.l0 pE k a0 0 a0 (List.replicate (a0 : Int).toNat 0)) else (none)) else (none)) else (some (0,([] : List Int),false)))
theorem impl_graphOf.mono_l (pE : Int → Int → Option Bool) : ∀ k,(∀ y0 y1 y2 y3,LeO (impl_graphOf.l0 pE k y0 y1 y2 y3) (impl_graphOf.l0 pE (k + 1) y0 y1 y2 y3)) ∧ (∀ y0 y1 y2 y3 y4 y5 y6,LeO (impl_graphOf.l1 pE k y0 y1 y2 y3 y4 y5 y6) (impl_graphOf.l1 pE (k + 1) y0 y1 y2 y3 y4 y5 y6))
 | 0=>⟨fun _ _ _ _ r h=>by simp [impl_graphOf.l0] at h,fun _ _ _ _ _ _ _ r h=>by simp [impl_graphOf.l1] at h⟩
 | k + 1=>by
  obtain ⟨ih0,ih1⟩:=impl_graphOf.mono_l pE k
  refine ⟨?_,?_⟩
  ·intro y0 y1 y2 y3
   unfold impl_graphOf.l0
   repeat' first
   | (with_reducible exact ih0 _ _ _ _)
   | (with_reducible exact ih1 _ _ _ _ _ _ _)
   | (with_reducible exact LeO.refl _)
   | (with_reducible exact LeO.none _)
   | (with_reducible refine LeO.ite ?_ ?_)
   | (with_reducible refine LeO.bind ?_ (fun _=>?_))
   | exact ih0 _ _ _ _
   | exact ih1 _ _ _ _ _ _ _
   | exact LeO.none _
   | refine LeO.ite ?_ ?_
   | refine LeO.bind ?_ (fun _=>?_)
  ·intro y0 y1 y2 y3 y4 y5 y6
   unfold impl_graphOf.l1
   repeat' first
   | (with_reducible exact ih0 _ _ _ _)
   | (with_reducible exact ih1 _ _ _ _ _ _ _)
   | (with_reducible exact LeO.refl _)
   | (with_reducible exact LeO.none _)
   | (with_reducible refine LeO.ite ?_ ?_)
   | (with_reducible refine LeO.bind ?_ (fun _=>?_))
   | exact ih0 _ _ _ _
   | exact ih1 _ _ _ _ _ _ _
   | exact LeO.none _
   | refine LeO.ite ?_ ?_
   | refine LeO.bind ?_ (fun _=>?_)
theorem impl_graphOf.mono (pE : Int → Int → Option Bool) : ∀ a0 k,LeO (impl_graphOf.f pE k a0) (impl_graphOf.f pE (k + 1) a0):=by
 intro a0 k
 obtain ⟨ih0,ih1⟩:=impl_graphOf.mono_l pE k
 unfold impl_graphOf.f
 repeat' first
   | (with_reducible exact ih0 _ _ _ _)
   | (with_reducible exact ih1 _ _ _ _ _ _ _)
   | (with_reducible exact LeO.refl _)
   | (with_reducible exact LeO.none _)
   | (with_reducible refine LeO.ite ?_ ?_)
   | (with_reducible refine LeO.bind ?_ (fun _=>?_))
   | exact ih0 _ _ _ _
   | exact ih1 _ _ _ _ _ _ _
   | exact LeO.none _
   | refine LeO.ite ?_ ?_
   | refine LeO.bind ?_ (fun _=>?_)
set_option maxHeartbeats 8000000 in
set_option maxRecDepth 100000 in
theorem impl_graphOf.calls (pE : Int → Int → Option Bool) (gE : FuncId) (capE : Array Value) (k : Nat) (a0 : Int) (r1 : Int) (r2 : List Int) (r3 : Bool) (w : World) (heE : ∀ (xs : Array Value) (W : World),(callFunc gE xs).run Tryz.prog W = .ok (.enter gE xs) W)
  (hE0 : ∀ (W : World) (x y : Int) (b : Bool),pE x y = some b → Below w.heap.size w W → Calls Tryz.prog gE (#[.int .i64 x,.int .i64 y] ++ capE) W fun e w'=>e = .returned (.bool b) ∧ Drawn0 W w')
  (h : impl_graphOf.f pE k a0 = some (r1,r2,r3)) :
  Calls Tryz.prog 32 #[.int .i64 a0,.func (.func gE) #[] capE] w fun e w'=>∃ v1_ : Value,e = .returned (.tuple #[.agg #[.int .i64 r1,v1_],.bool r3]) ∧ Kd.R (Kd.int .i64) 3 w' w.heap.size (fun _=>True) v1_ r2 ∧ Below w.heap.size w w':=by
 have hu24:=Tryz.underlying24
 have HB:=Aside0.mk (Below.refl w.heap.size w)
 have HE:=Aside0.mk hE0
 have HEN:=Aside0.mk heE
 clear hE0 heE
 have H : ((impl_in.f a0 1 8).bind fun t109=>(if t109 = true then (if 0 ≤ a0 then (if (a0 : Int).toNat ≤ 35184372088832 then (impl_graphOf.l0 pE k a0 0 a0 (List.replicate (a0 : Int).toNat 0)) else (none)) else (none)) else (some (0,([] : List Int),false)))) = some (r1,r2,r3):=h
 clear h
 replace H:=Option.bind_eq_some_iff.mp H
 obtain ⟨t109,A30,H⟩:=H
 replace H : (if t109 = true then (if 0 ≤ a0 then (if (a0 : Int).toNat ≤ 35184372088832 then (impl_graphOf.l0 pE k a0 0 a0 (List.replicate (a0 : Int).toNat 0)) else (none)) else (none)) else (some (0,([] : List Int),false))) = some (r1,r2,r3):=H
 have A3:=Aside0.mk A30
 clear A30
 by_cases c4 : t109 = true
 ·subst c4
  have H1 : (if 0 ≤ a0 then (if (a0 : Int).toNat ≤ 35184372088832 then (impl_graphOf.l0 pE k a0 0 a0 (List.replicate (a0 : Int).toNat 0)) else (none)) else (none)) = some (r1,r2,r3):=by rw [if_pos rfl] at H;exact H
  clear H
  have H:=H1
  clear H1
  by_cases c5 : 0 ≤ a0
  ·rw [if_pos c5] at H
   have c5b0:=eq_true c5
   have c5b1 : decide (0 ≤ a0) = true:=decide_eq_true c5
   clear c5
   by_cases c6 : (a0 : Int).toNat ≤ 35184372088832
   ·rw [if_pos c6] at H
    have c6b0:=eq_true c6
    have c6b1 : decide ((a0 : Int).toNat ≤ 35184372088832) = true:=decide_eq_true c6
    clear c6
    obtain ⟨y110,hy110⟩ : ∃ y_ : List Int,y_ = (List.replicate (a0 : Int).toNat 0):=⟨_,rfl⟩
    replace H : (impl_graphOf.l0 pE k a0 0 a0 y110) = some (r1,r2,r3):=by first | (rw [hy110];with_reducible exact H) | (have H2_:=(Option.bind_some _ _).symm.trans H;rw [hy110];with_reducible exact H2_) | (have H2_:=(Option.bind_some _ _).symm.trans H;with_reducible exact H2_) | with_reducible exact H | (rw [hy110];exact H) | exact H
    have Ny110:=Aside0.mk hy110
    clear hy110
    have H':=Aside0.mk H
    clear H
    go_enter Tryz.func32,Tryz.ntmps32
    go_wp2_with (first | ((with_reducible refine gate_dst (N:=4) rfl ?_);refine box_event ?hg (N:=4) ?hd (cs:=#[.int .i64 0,.slice none 0 0]) (t:=24) ?hr ?_;(case hd=>rfl);(case hg=>rfl);(case hr=>first | (go_simp;done) | (go_simp;rfl));intro gb108 hg w7 hbox hb;have n0_:=Aside0.mk (below_step (by repeat (first | (with_reducible first | exact HB.out | apply below_alloc | apply pw_below_drewN | apply below_drew1) | exact HB.out)) hb);have n1_:=Aside0.mk (hbox);have n2_:=Aside0.mk ((by rw [hg];exact (below_size (by repeat (first | (with_reducible first | exact HB.out | apply below_alloc | apply pw_below_drewN | apply below_drew1) | exact HB.out))) : w.heap.size ≤ gb108));have n3_:=Aside0.mk ((by rw [hg];exact (below_size (by repeat (first | (with_reducible first | exact HB.out | apply below_alloc | apply pw_below_drewN | apply below_drew1) | exact HB.out))) : w.heap.size ≤ gb108));clear HB;have HB:=n0_;have BK108:=n1_;have GW108:=n2_;have GE108:=n3_;clear n0_ n1_ n2_ n3_;clear hb hbox hg) | ((with_reducible refine gate_callee (f:=37) rfl ?_);refine goesL_ (some 10) rfl rfl Tryz.func37 (by kernel_rfl) rfl #[.int .i64 a0,.int .i64 1,.int .i64 8] rfl (by (try simp only [List.map_toArray,List.map_cons,List.map_nil]);first | done | rfl | (simp only [List.length_drop,List.length_take];rfl)) ?_;(with_reducible refine (impl_in.calls a0 1 8 true _ A3.out).mono ?_);rintro e w' ⟨rfl,⟨nd,rfl⟩⟩;refine ⟨_,rfl,?_⟩;(try (rw [drewN_self w7];generalize hq_ : World.drewN w7 _ = w7;have n0_ : Aside0 (w7.heap[gb108]? = some (.cells #[.int .i64 0,.slice none 0 0] 24 (0,0))):=⟨by rw [← hq_];exact (by (with_reducible repeat (first | refine blk_drewN ?_ _ | refine blk_drew ?_ | refine blk_alloc ?_ _));exact BK108.out)⟩;have n1_ : Aside0 (Below w.heap.size w w7):=⟨by rw [← hq_];exact (by repeat (first | (with_reducible first | exact HB.out | apply below_alloc | apply pw_below_drewN | apply below_drew1 | refine below_set ?_ GE108.out) | exact HB.out))⟩;clear BK108 HB hq_;have BK108:=n0_;have HB:=n1_;clear n0_ n1_))) | ((with_reducible refine gate_dst (N:=15) rfl ?_);refine Kd.R_make (Kd.int .i64) _ 3 rfl (N:=15) rfl 22 _ _ rfl a0 rfl rfl Tryz.underlying22 (.int .i64 0) 8 info3 rfl (by decide) (by omega) 0 (ok:=fun _=>True) (okp:=fun _=>True) rfl (fun _ hk=>hk) trivial (of_decide_eq_true (by first | (with_reducible assumption) | assumption)) (Nat.le_trans (Nat.mul_le_mul_right _ (of_decide_eq_true (by first | (with_reducible assumption) | assumption) : a0.toNat ≤ 35184372088832)) (by omega)) (Below.refl _ _) (Nat.le_refl _) ?_;intro v111 w8 ho9 hb hg_ hnew_;clear hg_ hnew_;(first | rw [← Ny110.out] at ho9 | (simp only [Int.reduceToNat] at ho9;rw [← Ny110.out] at ho9));have n0_:=Aside0.mk (Kd.R_lower ho9 (below_size (by repeat (first | (with_reducible first | exact HB.out | apply below_alloc | apply pw_below_drewN | apply below_drew1 | refine below_set ?_ GE108.out) | exact HB.out))));have n1_:=Aside0.mk (blk_below (g:=gb108) (o:=.cells #[.int .i64 0,.slice none 0 0] 24 (0,0)) (by (with_reducible repeat (first | refine blk_drewN ?_ _ | refine blk_drew ?_ | refine blk_alloc ?_ _));exact BK108.out) hb);have n2_:=Aside0.mk (below_step (by repeat (first | (with_reducible first | exact HB.out | apply below_alloc | apply pw_below_drewN | apply below_drew1 | refine below_set ?_ GE108.out) | exact HB.out)) hb);clear BK108;clear HB;have HO112:=n0_;have BK108:=n1_;have HB:=n2_;clear n0_ n1_ n2_;clear hb ho9;obtain ⟨Ao10,co10,eo10⟩:=Kd.R_slice HO112.out;subst eo10) | ((with_reducible refine gate_dst (N:=6) rfl ?_);refine box_event ?hg (N:=6) ?hd (cs:=#[.int .i64 0,.slice none 0 0]) (t:=24) ?hr ?_;(case hd=>rfl);(case hg=>rfl);(case hr=>first | (go_simp;done) | (go_simp;rfl));intro gb113 hg w11 hbox hb;have n0_:=Aside0.mk (Kd.R_below (by (with_reducible repeat (first | apply Kd.R_alloc | apply Kd.R_drewN | apply Kd.R_drew));exact HO112.out) hb);have n1_:=Aside0.mk (blk_below (g:=gb108) (o:=.cells #[.int .i64 0,.slice none 0 0] 24 (0,0)) (by (with_reducible repeat (first | refine blk_drewN ?_ _ | refine blk_drew ?_ | refine blk_alloc ?_ _));exact BK108.out) hb);have n2_:=Aside0.mk (below_step (by repeat (first | (with_reducible first | exact HB.out | apply below_alloc | apply pw_below_drewN | apply below_drew1 | refine below_set ?_ GE108.out) | exact HB.out)) hb);have n3_:=Aside0.mk (hbox);have n4_:=Aside0.mk ((by rw [hg];exact (below_size (by repeat (first | (with_reducible first | exact HB.out | apply below_alloc | apply pw_below_drewN | apply below_drew1 | refine below_set ?_ GE108.out) | exact HB.out))) : w.heap.size ≤ gb113));have n5_:=Aside0.mk ((by rw [hg];exact (below_size (by repeat (first | (with_reducible first | exact HB.out | apply below_alloc | apply pw_below_drewN | apply below_drew1 | refine below_set ?_ GE108.out) | exact HB.out))) : w.heap.size ≤ gb113));have n6_:=Aside0.mk ((by rw [hg];exact Nat.ne_of_lt (blk_lt (g:=gb108) (o:=.cells #[.int .i64 0,.slice none 0 0] 24 (0,0)) (by (with_reducible repeat (first | refine blk_drewN ?_ _ | refine blk_drew ?_ | refine blk_alloc ?_ _));exact BK108.out)) : gb108 ≠ gb113));have n7_:=Aside0.mk ((by rw [hg];exact Nat.ne_of_gt (blk_lt (g:=gb108) (o:=.cells #[.int .i64 0,.slice none 0 0] 24 (0,0)) (by (with_reducible repeat (first | refine blk_drewN ?_ _ | refine blk_drew ?_ | refine blk_alloc ?_ _));exact BK108.out)) : gb113 ≠ gb108));clear HO112;clear BK108;clear HB;have HO112:=n0_;have BK108:=n1_;have HB:=n2_;have BK113:=n3_;have GW113:=n4_;have GE113:=n5_;have NB108_113:=n6_;have NB113_108:=n7_;clear n0_ n1_ n2_ n3_ n4_ n5_ n6_ n7_;clear hb hbox hg;have hnb12:=NB113_108.out;have hnc12:=NB108_113.out;have hcz13_0 : w11.cell? ⟨gb113,0,none⟩ = some (.int .i64 0):=(blk_cell BK113.out 0).trans rfl;have hcz13_1 : w11.cell? ⟨gb113,1,none⟩ = some (.slice none 0 0):=(blk_cell BK113.out 1).trans rfl;have hfz13_0:=blk_frozen BK113.out 0;have hfz13_1:=blk_frozen BK113.out 1))
    go_loopg [18] k (fun kq v18 w'=>∃ (x18_1 : Int) (x114001_1 : List Int) (u114001 : Value),v18 = .int .i64 x18_1 ∧ Aside0 (impl_graphOf.l0 pE kq a0 x18_1 a0 x114001_1 = some (r1,r2,r3)) ∧ Aside0 (kq ≤ k) ∧ Aside0 (Kd.R (Kd.int .i64) 3 w' w.heap.size (fun _=>True) u114001 x114001_1) ∧ Aside0 (w'.heap[gb108]? = some (.cells #[.int .i64 0,(.slice none 0 0)] 24 (0,0))) ∧ Aside0 (w'.heap[gb113]? = some (.cells #[.int .i64 a0,u114001] 24 (0,0))) ∧ Aside0 (Below w.heap.size w w'))
    case atStart=>exact ⟨(0),(y110),(.slice Ao10 y110.length co10),(by first | rfl | (simp;done) | (simp [*];done)),H',⟨Nat.le_refl _⟩,⟨by (with_reducible repeat (first | apply Kd.R_alloc | apply Kd.R_drewN | apply Kd.R_drew));exact Kd.R_mono (Kd.R_far (p:=⟨gb113,1,none⟩) (Kd.R_far (p:=⟨gb113,0,none⟩) (Kd.R_types HO112.out BK113.out (by decide)) (fun _ hk=>hk.2) (.int .i64 a0)) (fun _ hk=>hk.2) (.slice Ao10 y110.length co10)) (fun _ hk=>trivial)⟩,⟨by (with_reducible repeat (first | refine blk_drewN ?_ _ | refine blk_drew ?_ | refine blk_alloc ?_ _));refine blk_far ?_ NB108_113.out _;(with_reducible repeat (first | refine blk_drewN ?_ _ | refine blk_drew ?_ | refine blk_alloc ?_ _));refine blk_far ?_ NB108_113.out _;(with_reducible repeat (first | refine blk_drewN ?_ _ | refine blk_drew ?_ | refine blk_alloc ?_ _));exact BK108.out⟩,⟨by (with_reducible repeat (first | refine blk_drewN ?_ _ | refine blk_drew ?_ | refine blk_alloc ?_ _));refine blk_put (cs:=#[.int .i64 a0,.slice none 0 0]) ?_ 1 _ rfl;(with_reducible repeat (first | refine blk_drewN ?_ _ | refine blk_drew ?_ | refine blk_alloc ?_ _));refine blk_put (cs:=#[.int .i64 0,.slice none 0 0]) ?_ 0 _ rfl;(with_reducible repeat (first | refine blk_drewN ?_ _ | refine blk_drew ?_ | refine blk_alloc ?_ _));exact BK113.out⟩,⟨by repeat (first | (with_reducible first | exact HB.out | apply below_alloc | apply pw_below_drewN | apply below_drew1 | refine below_set ?_ GE108.out | refine below_set ?_ GE113.out) | exact HB.out)⟩⟩
    case round =>
     clear H'
     try clear c1
     try clear p2
     try clear c3
     try clear c4
     try clear c5
     try clear c5b0
     try clear c5b1
     try clear c6
     try clear c6b0
     try clear c6b1
     try clear c12
     try clear hcz13_0
     try clear hcz13_1
     try clear hfz13_0
     try clear hfz13_1
     obtain ⟨x18_1,x114001_1,u114001,rfl,HA,HK1,HO_114001,BK108,BK113,HB⟩:=hrel
     cases gk with
     | zero=>exact absurd HA.out (by simp [impl_graphOf.l0])
     | succ k1 =>
      have H:=HA.out
      clear HA
      simp only [impl_graphOf.l0] at H
      by_cases c14 : x18_1 < a0
      ·rw [if_pos c14] at H
       have c14b0 : decide (x18_1 < a0) = true:=decide_eq_true c14
       clear c14
       have H':=Aside0.mk H
       clear H
       go_wp2
       go_loopg [22] k1 (fun kq v22 w'=>∃ (x22_2 : Int) (x114001_2 : List Int) (u114001 : Value),v22 = .int .i64 x22_2 ∧ Aside0 (impl_graphOf.l1 pE kq x18_1 a0 x18_1 x18_1 x22_2 a0 x114001_2 = some (r1,r2,r3)) ∧ Aside0 (kq ≤ k1) ∧ Aside0 (Kd.R (Kd.int .i64) 3 w' w.heap.size (fun _=>True) u114001 x114001_2) ∧ Aside0 (w'.heap[gb108]? = some (.cells #[.int .i64 0,(.slice none 0 0)] 24 (0,0))) ∧ Aside0 (w'.heap[gb113]? = some (.cells #[.int .i64 a0,u114001] 24 (0,0))) ∧ Aside0 (Below w.heap.size w w'))
       case atStart=>exact ⟨(0),(x114001_1),(u114001),(by first | rfl | (simp;done) | (simp [*];done)),H',⟨Nat.le_refl _⟩,⟨by (with_reducible repeat (first | apply Kd.R_alloc | apply Kd.R_drewN | apply Kd.R_drew));exact HO_114001.out⟩,⟨by (with_reducible repeat (first | refine blk_drewN ?_ _ | refine blk_drew ?_ | refine blk_alloc ?_ _));exact BK108.out⟩,⟨by (with_reducible repeat (first | refine blk_drewN ?_ _ | refine blk_drew ?_ | refine blk_alloc ?_ _));exact BK113.out⟩,⟨by repeat (first | (with_reducible first | exact HB.out | apply below_alloc | apply pw_below_drewN | apply below_drew1 | refine below_set ?_ GE108.out | refine below_set ?_ GE113.out) | exact HB.out)⟩⟩
       case round =>
        clear H'
        try clear c1
        try clear p2
        try clear c3
        try clear c4
        try clear c5
        try clear c5b0
        try clear c5b1
        try clear c6
        try clear c6b0
        try clear c6b1
        try clear c12
        try clear c14
        try clear c14b0
        try clear hcz13_0
        try clear hcz13_1
        try clear hfz13_0
        try clear hfz13_1
        try clear p2
        obtain ⟨x22_2,x114001_2,u114001,rfl,HA,HK2,HO_114001,BK108,BK113,HB⟩:=hrel
        cases gk with
        | zero=>exact absurd HA.out (by simp [impl_graphOf.l1])
        | succ k2 =>
         have H:=HA.out
         clear HA
         simp only [impl_graphOf.l1] at H
         by_cases c15 : x22_2 < x18_1
         ·rw [if_pos c15] at H
          have c15b0 : decide (x22_2 < x18_1) = true:=decide_eq_true c15
          clear c15
          replace H:=Option.bind_eq_some_iff.mp H
          obtain ⟨t114,A160,H⟩:=H
          replace H : (if t114 = true then ((impl_Graph_join.f a0 x114001_2 x22_2 x18_1).bind fun t115=>(impl_graphOf.l1 pE k2 x18_1 a0 x18_1 x18_1 (wrap64 (x22_2 + 1)) a0 t115)) else (impl_graphOf.l1 pE k2 x18_1 a0 x18_1 x18_1 (wrap64 (x22_2 + 1)) a0 x114001_2)) = some (r1,r2,r3):=H
          have A16:=Aside0.mk A160
          clear A160
          by_cases c17 : t114 = true
          ·subst c17
           have H1 : ((impl_Graph_join.f a0 x114001_2 x22_2 x18_1).bind fun t115=>(impl_graphOf.l1 pE k2 x18_1 a0 x18_1 x18_1 (wrap64 (x22_2 + 1)) a0 t115)) = some (r1,r2,r3):=by rw [if_pos rfl] at H;exact H
           clear H
           have H:=H1
           clear H1
           replace H:=Option.bind_eq_some_iff.mp H
           obtain ⟨t115,A180,H⟩:=H
           replace H : (impl_graphOf.l1 pE k2 x18_1 a0 x18_1 x18_1 (wrap64 (x22_2 + 1)) a0 t115) = some (r1,r2,r3):=H
           have A18:=Aside0.mk A180
           clear A180
           have H':=Aside0.mk H
           clear H
           go_wp2_with (first | ((with_reducible refine gate_tmp (t:=25) rfl ?_);refine goesF_ (some 28) rfl rfl gE capE HEN.out #[.int .i64 x22_2,.int .i64 x18_1] rfl rfl (by (try simp only [List.map_toArray,List.map_cons,List.map_nil]);first | done | rfl) ?_;(with_reducible refine (HE.out _ x22_2 x18_1 true A16.out (by repeat (first | (with_reducible first | exact HB.out | apply below_alloc | apply pw_below_drewN | apply below_drew1) | exact HB.out))).mono ?_);rintro e w' ⟨rfl,⟨nd,rfl⟩⟩;refine ⟨_,rfl,?_⟩;have hnb19:=NB113_108.out;have hnc19:=NB108_113.out;have hcz20_0 : wr.cell? ⟨gb113,0,none⟩ = some (.int .i64 a0):=(blk_cell BK113.out 0).trans rfl;have hcz20_1 : wr.cell? ⟨gb113,1,none⟩ = some (u114001):=(blk_cell BK113.out 1).trans rfl;have hfz20_0:=blk_frozen BK113.out 0;have hfz20_1:=blk_frozen BK113.out 1;obtain ⟨Ao21,co21,eo21⟩:=Kd.R_slice HO_114001.out;subst eo21) | ((with_reducible refine gate_callee (f:=19) rfl ?_);refine goesL_ (some 32) rfl rfl Tryz.func19 (by kernel_rfl) rfl #[.agg #[.int .i64 a0,.slice Ao21 x114001_2.length co21],.int .i64 x22_2,.int .i64 x18_1] rfl (by (try simp only [List.map_toArray,List.map_cons,List.map_nil]);first | done | rfl | (simp only [List.length_drop,List.length_take];rfl)) ?_;(with_reducible refine (impl_Graph_join.calls a0 (fun k_=>some k_ = (.slice Ao21 x114001_2.length co21 : Value).ownBlock) (.slice Ao21 x114001_2.length co21) x114001_2 x22_2 x18_1 t115 w _ ?side1 ?side2 A18.out).mono ?_);(case side1=>repeat (first | (with_reducible first | exact HB.out | apply below_alloc | apply pw_below_drewN | apply below_drew1 | refine below_set ?_ GE108.out | refine below_set ?_ GE113.out) | exact HB.out));(case side2=>exact Kd.R_tight rfl HO_114001.out);rintro e w22 ⟨rfl,hy0,hb,hkp⟩;refine ⟨_,rfl,?_⟩;have n0_:=Aside0.mk (Kd.R_reok rfl hy0 (fun k_ e_=>HO_114001.out.1 k_ e_));have n1_:=Aside0.mk (blk_kept (by (with_reducible repeat (first | refine blk_drewN ?_ _ | refine blk_drew ?_ | refine blk_alloc ?_ _));exact BK108.out) hkp (fun hs_=>(fun e_=>(Kd.R_ne HO_114001.out BK108.out (by decide)) e_) hs_));have n2_:=Aside0.mk (blk_kept (by (with_reducible repeat (first | refine blk_drewN ?_ _ | refine blk_drew ?_ | refine blk_alloc ?_ _));exact BK113.out) hkp (fun hs_=>(fun e_=>(Kd.R_ne HO_114001.out BK113.out (by decide)) e_) hs_));have n3_:=Aside0.mk (hb);clear HO_114001;clear BK108;clear BK113;clear HB;have HO_114001:=n0_;have BK108:=n1_;have BK113:=n2_;have HB:=n3_;clear n0_ n1_ n2_ n3_;(try clear hb);(try clear hkp);(try clear hy0)))
           go_roundg k2
           case measure=>have:=HK1.out;have:=HK2.out;omega
           case rel=>exact ⟨(wrap64 (x22_2 + 1)),(t115),(.slice Ao21 x114001_2.length co21),(by first | rfl | (simp;done) | (simp [*];done)),H',⟨by have:=HK1.out;have:=HK2.out;omega⟩,⟨by (with_reducible repeat (first | apply Kd.R_alloc | apply Kd.R_drewN | apply Kd.R_drew));exact HO_114001.out⟩,⟨by (with_reducible repeat (first | refine blk_drewN ?_ _ | refine blk_drew ?_ | refine blk_alloc ?_ _));exact BK108.out⟩,⟨by (with_reducible repeat (first | refine blk_drewN ?_ _ | refine blk_drew ?_ | refine blk_alloc ?_ _));exact BK113.out⟩,⟨by repeat (first | (with_reducible first | exact HB.out | apply below_alloc | apply pw_below_drewN | apply below_drew1 | refine below_set ?_ GE108.out | refine below_set ?_ GE113.out) | exact HB.out)⟩⟩
          ·replace c17:=Bool.eq_false_iff.mpr c17
           subst c17
           have H1 : (impl_graphOf.l1 pE k2 x18_1 a0 x18_1 x18_1 (wrap64 (x22_2 + 1)) a0 x114001_2) = some (r1,r2,r3):=by rw [if_neg (show ¬ (false = true) by decide)] at H;exact H
           clear H
           have H:=H1
           clear H1
           have H':=Aside0.mk H
           clear H
           go_wp2_with (first | ((with_reducible refine gate_tmp (t:=25) rfl ?_);refine goesF_ (some 28) rfl rfl gE capE HEN.out #[.int .i64 x22_2,.int .i64 x18_1] rfl rfl (by (try simp only [List.map_toArray,List.map_cons,List.map_nil]);first | done | rfl) ?_;(with_reducible refine (HE.out _ x22_2 x18_1 false A16.out (by repeat (first | (with_reducible first | exact HB.out | apply below_alloc | apply pw_below_drewN | apply below_drew1) | exact HB.out))).mono ?_);rintro e w' ⟨rfl,⟨nd,rfl⟩⟩;refine ⟨_,rfl,?_⟩))
           go_roundg k2
           case measure=>have:=HK1.out;have:=HK2.out;omega
           case rel=>exact ⟨(wrap64 (x22_2 + 1)),(x114001_2),(u114001),(by first | rfl | (simp;done) | (simp [*];done)),H',⟨by have:=HK1.out;have:=HK2.out;omega⟩,⟨by (with_reducible repeat (first | apply Kd.R_alloc | apply Kd.R_drewN | apply Kd.R_drew));exact HO_114001.out⟩,⟨by (with_reducible repeat (first | refine blk_drewN ?_ _ | refine blk_drew ?_ | refine blk_alloc ?_ _));exact BK108.out⟩,⟨by (with_reducible repeat (first | refine blk_drewN ?_ _ | refine blk_drew ?_ | refine blk_alloc ?_ _));exact BK113.out⟩,⟨by repeat (first | (with_reducible first | exact HB.out | apply below_alloc | apply pw_below_drewN | apply below_drew1 | refine below_set ?_ GE108.out | refine below_set ?_ GE113.out) | exact HB.out)⟩⟩
         ·rw [if_neg c15] at H
          have c15b0 : decide (x22_2 < x18_1) = false:=decide_eq_false c15
          clear c15
          have H':=Aside0.mk H
          clear H
          go_wp2
          go_roundg k2
          case measure=>have:=HK1.out;have:=HK2.out;omega
          case rel=>exact ⟨(wrap64 (x18_1 + 1)),(x114001_2),(u114001),(by first | rfl | (simp;done) | (simp [*];done)),H',⟨by have:=HK1.out;have:=HK2.out;omega⟩,⟨by (with_reducible repeat (first | apply Kd.R_alloc | apply Kd.R_drewN | apply Kd.R_drew));exact HO_114001.out⟩,⟨by (with_reducible repeat (first | refine blk_drewN ?_ _ | refine blk_drew ?_ | refine blk_alloc ?_ _));exact BK108.out⟩,⟨by (with_reducible repeat (first | refine blk_drewN ?_ _ | refine blk_drew ?_ | refine blk_alloc ?_ _));exact BK113.out⟩,⟨by repeat (first | (with_reducible first | exact HB.out | apply below_alloc | apply pw_below_drewN | apply below_drew1 | refine below_set ?_ GE108.out | refine below_set ?_ GE113.out) | exact HB.out)⟩⟩
      ·rw [if_neg c14] at H
       have c14b0 : decide (x18_1 < a0) = false:=decide_eq_false c14
       clear c14
       simp only [Option.some.injEq,Prod.mk.injEq] at H
       obtain ⟨rfl,rfl,rfl⟩:=H
       have hnb23:=NB113_108.out
       have hnc23:=NB108_113.out
       have hcz24_0 : wr.cell? ⟨gb113,0,none⟩ = some (.int .i64 a0):=(blk_cell BK113.out 0).trans rfl
       have hcz24_1 : wr.cell? ⟨gb113,1,none⟩ = some (u114001):=(blk_cell BK113.out 1).trans rfl
       have hfz24_0:=blk_frozen BK113.out 0
       have hfz24_1:=blk_frozen BK113.out 1
       have hcz25_0 : wr.cell? ⟨gb108,0,none⟩ = some (.int .i64 0):=(blk_cell BK108.out 0).trans rfl
       have hcz25_1 : wr.cell? ⟨gb108,1,none⟩ = some (.slice none 0 0):=(blk_cell BK108.out 1).trans rfl
       have hfz25_0:=blk_frozen BK108.out 0
       have hfz25_1:=blk_frozen BK108.out 1
       obtain ⟨Ao26,co26,eo26⟩:=Kd.R_slice HO_114001.out
       subst eo26
       go_wp2
       refine bodyPost_ret (results_ct rfl _ _ gb108 24 #[.int .i64 a0,.slice Ao26 x114001_1.length co26] (0,0) _ rfl (by (with_reducible repeat (first | refine blk_drewN ?_ _ | refine blk_drew ?_ | refine blk_alloc ?_ _));refine blk_put (cs:=#[.int .i64 a0,.slice none 0 0]) ?_ 1 _ rfl;(with_reducible repeat (first | refine blk_drewN ?_ _ | refine blk_drew ?_ | refine blk_alloc ?_ _));refine blk_put (cs:=#[.int .i64 0,.slice none 0 0]) ?_ 0 _ rfl;(with_reducible repeat (first | refine blk_drewN ?_ _ | refine blk_drew ?_ | refine blk_alloc ?_ _));exact BK108.out) Tryz.underlying24 rfl (by kernel_rfl)) rfl ?_
       exact ⟨_,by first | rfl | (simp [errW_none,errW_some] <;> rfl) | (simp [*,errW_none,errW_some] <;> rfl),by (with_reducible repeat (first | apply Kd.R_alloc | apply Kd.R_drewN | apply Kd.R_drew));exact Kd.R_mono (Kd.R_far (p:=⟨gb108,1,none⟩) (Kd.R_far (p:=⟨gb108,0,none⟩) (Kd.R_types HO_114001.out BK108.out (by decide)) (fun _ hk=>hk.2) (.int .i64 a0)) (fun _ hk=>hk.2) (.slice Ao26 x114001_1.length co26)) (fun _ hk=>trivial),by repeat (first | (with_reducible first | exact HB.out | apply below_alloc | apply pw_below_drewN | apply below_drew1 | refine below_set ?_ GE108.out | refine below_set ?_ GE113.out) | exact HB.out)⟩
   ·rw [if_neg c6] at H
    exact absurd H (by simp)
  ·rw [if_neg c5] at H
   exact absurd H (by simp)
 ·replace c4:=Bool.eq_false_iff.mpr c4
  subst c4
  have H1 : (some (0,([] : List Int),false)) = some (r1,r2,r3):=by rw [if_neg (show ¬ (false = true) by decide)] at H;exact H
  clear H
  have H:=H1
  clear H1
  simp only [Option.some.injEq,Prod.mk.injEq] at H
  obtain ⟨rfl,rfl,rfl⟩:=H
  go_enter Tryz.func32,Tryz.ntmps32
  go_wp2_with (first | ((with_reducible refine gate_dst (N:=4) rfl ?_);refine box_event ?hg (N:=4) ?hd (cs:=#[.int .i64 0,.slice none 0 0]) (t:=24) ?hr ?_;(case hd=>rfl);(case hg=>rfl);(case hr=>first | (go_simp;done) | (go_simp;rfl));intro gb108 hg w27 hbox hb;have n0_:=Aside0.mk (below_step (by repeat (first | (with_reducible first | exact HB.out | apply below_alloc | apply pw_below_drewN | apply below_drew1) | exact HB.out)) hb);have n1_:=Aside0.mk (hbox);have n2_:=Aside0.mk ((by rw [hg];exact (below_size (by repeat (first | (with_reducible first | exact HB.out | apply below_alloc | apply pw_below_drewN | apply below_drew1) | exact HB.out))) : w.heap.size ≤ gb108));have n3_:=Aside0.mk ((by rw [hg];exact (below_size (by repeat (first | (with_reducible first | exact HB.out | apply below_alloc | apply pw_below_drewN | apply below_drew1) | exact HB.out))) : w.heap.size ≤ gb108));clear HB;have HB:=n0_;have BK108:=n1_;have GW108:=n2_;have GE108:=n3_;clear n0_ n1_ n2_ n3_;clear hb hbox hg) | ((with_reducible refine gate_callee (f:=37) rfl ?_);refine goesL_ (some 10) rfl rfl Tryz.func37 (by kernel_rfl) rfl #[.int .i64 a0,.int .i64 1,.int .i64 8] rfl (by (try simp only [List.map_toArray,List.map_cons,List.map_nil]);first | done | rfl | (simp only [List.length_drop,List.length_take];rfl)) ?_;(with_reducible refine (impl_in.calls a0 1 8 false _ A3.out).mono ?_);rintro e w' ⟨rfl,⟨nd,rfl⟩⟩;refine ⟨_,rfl,?_⟩;(try (rw [drewN_self w27];generalize hq_ : World.drewN w27 _ = w27;have n0_ : Aside0 (w27.heap[gb108]? = some (.cells #[.int .i64 0,.slice none 0 0] 24 (0,0))):=⟨by rw [← hq_];exact (by (with_reducible repeat (first | refine blk_drewN ?_ _ | refine blk_drew ?_ | refine blk_alloc ?_ _));exact BK108.out)⟩;have n1_ : Aside0 (Below w.heap.size w w27):=⟨by rw [← hq_];exact (by repeat (first | (with_reducible first | exact HB.out | apply below_alloc | apply pw_below_drewN | apply below_drew1 | refine below_set ?_ GE108.out) | exact HB.out))⟩;clear BK108 HB hq_;have BK108:=n0_;have HB:=n1_;clear n0_ n1_));have hcz28_0 : w27.cell? ⟨gb108,0,none⟩ = some (.int .i64 0):=(blk_cell BK108.out 0).trans rfl;have hcz28_1 : w27.cell? ⟨gb108,1,none⟩ = some (.slice none 0 0):=(blk_cell BK108.out 1).trans rfl;have hfz28_0:=blk_frozen BK108.out 0;have hfz28_1:=blk_frozen BK108.out 1))
  refine bodyPost_ret (results_ct rfl _ _ gb108 24 #[.int .i64 0,.slice none 0 0] (0,0) _ rfl (by (with_reducible repeat (first | refine blk_drewN ?_ _ | refine blk_drew ?_ | refine blk_alloc ?_ _));refine blk_put (cs:=#[.int .i64 0,.slice none 0 0]) ?_ 1 _ rfl;(with_reducible repeat (first | refine blk_drewN ?_ _ | refine blk_drew ?_ | refine blk_alloc ?_ _));refine blk_put (cs:=#[.int .i64 0,.slice none 0 0]) ?_ 0 _ rfl;(with_reducible repeat (first | refine blk_drewN ?_ _ | refine blk_drew ?_ | refine blk_alloc ?_ _));exact BK108.out) Tryz.underlying24 rfl (by kernel_rfl)) rfl ?_
  exact ⟨_,by first | rfl | (simp [errW_none,errW_some] <;> rfl) | (simp [*,errW_none,errW_some] <;> rfl),by first | exact Kd.R_nil _ _ _ _ _ | exact Kd.N_nil _ _ _ _ _ | exact Kd.V_nil _ _ _ _ _ | exact Kd.Q_nil _ _ _ _ _ | exact Kd.S_nil _ _ _ _ _,by repeat (first | (with_reducible first | exact HB.out | apply below_alloc | apply pw_below_drewN | apply below_drew1 | refine below_set ?_ GE108.out) | exact HB.out)⟩


end Go.Proofs.YthfjphkhpfmdcaaGreatDoor.Q
