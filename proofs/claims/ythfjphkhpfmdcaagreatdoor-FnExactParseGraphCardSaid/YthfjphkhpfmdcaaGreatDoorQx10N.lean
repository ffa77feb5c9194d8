-- Made by a program of this session (wip/tools), out of Lean's own print of the translation.
import Derived.Test.YthfjphkhpfmdcaaGreatDoorMCardFnExactParseGraph0
import Derived.Test.YthfjphkhpfmdcaaGreatDoorQx3N
import Derived.Test.YthfjphkhpfmdcaaGreatDoorQx8N
import Derived.Test.YthfjphkhpfmdcaaGreatDoorQx9N
namespace Go.Proofs.YthfjphkhpfmdcaaGreatDoor.Q
open Go.RowKit Go.Proofs.YthfjphkhpfmdcaaGreatDoorW.PrintWords Go.Proofs.YthfjphkhpfmdcaaGreatDoorW.PrintLast Go.Proofs.YthfjphkhpfmdcaaGreatDoorW.PrintMore
attribute [local go_sem] max2_int min2_int max_two min_two max_three min_three max_four min_four   -- for this text's walks alone
set_option linter.unusedVariables false
set_option linter.unusedSimpArgs false

/-! ### spec_FormatGraph: function 13 -/
mutual
def spec_FormatGraph.l0 : Nat → ByteArray → List Int → Int → Int → Option (ByteArray)
 | 0,_,_,_,_=>none
 | k + 1,x3,x15,x16,x17=>if x17 < x16 then (if 0 ≤ x17 then (if x17 < (x15.length : Int) then ((spec_l02List.f k (rd x15 x17)).bind fun t156=>(spec_FormatGraph.l1 k x3 x17 x15 x16 x17 t156 (t156.length : Int) 0)) else (none)) else (none)) else (some x3)
def spec_FormatGraph.l1 : Nat → ByteArray → Int → List Int → Int → Int → List Int → Int → Int → Option (ByteArray)
 | 0,_,_,_,_,_,_,_,_=>none
 | k + 1,x3,x4,x15,x16,x17,x23,x24,x25=>if x25 < x24 then (if 0 ≤ x25 then (if x25 < (x23.length : Int) then (if x4 < (rd x23 x25) then (if x3.size + 1 ≤ 9223372036854775807 then ((spec_FormatInt.f k x4).bind fun t160=>(if (x3 ++ (⟨#[32]⟩ : ByteArray)).size + t160.size ≤ 9223372036854775807 then ((spec_FormatInt.f k (rd x23 x25)).bind fun t161=>(if ((x3 ++ (⟨#[32]⟩ : ByteArray)) ++ t160).size + t161.size ≤ 9223372036854775807 then (spec_FormatGraph.l1 k (((x3 ++ (⟨#[32]⟩ : ByteArray)) ++ t160) ++ t161) x4 x15 x16 x17 x23 x24 (wrap64 (x25 + 1))) else (none))) else (none))) else (none)) else (spec_FormatGraph.l1 k x3 x4 x15 x16 x17 x23 x24 (wrap64 (x25 + 1)))) else (none)) else (none)) else (spec_FormatGraph.l0 k x3 x15 x16 (wrap64 (x17 + 1)))
end
def spec_FormatGraph.f (k : Nat) (a0_0 : Int) (l0_1 : List Int) : Option (ByteArray):=(spec_GraphOk.f k a0_0 l0_1).bind fun t153=>(if t153 = true then ((spec_FormatInt.f k a0_0).bind fun t154=>(spec_FormatGraph.l0 k t154 l0_1 (l0_1.length : Int) 0)) else (some (⟨#[]⟩ : ByteArray)))
set_option maxHeartbeats 8000000 in
set_option maxRecDepth 100000 in
theorem spec_FormatGraph.calls (k : Nat) (a0_0 : Int) (A0_1 : Option Addr) (c0_1 : Nat) (l0_1 : List Int) (r : ByteArray) (w : World) (hr0_1 : Kd.C (Kd.int .i64) w A0_1 l0_1.length l0_1) (hc0_1 : l0_1.length ≤ c0_1) (h : spec_FormatGraph.f k a0_0 l0_1 = some r) :
  Calls Tryz.prog 13 #[.agg #[.int .i64 a0_0,.slice A0_1 l0_1.length c0_1]] w fun e w'=>e = .returned (.string r) ∧ Below w.heap.size w w':=by
 have hu24:=Tryz.underlying24
 have HR0_1:=Aside0.mk hr0_1
 have HC0_1:=Aside0.mk hc0_1
 clear hr0_1 hc0_1
 have HB:=Aside0.mk (Below.refl w.heap.size w)
 have H : ((spec_GraphOk.f k a0_0 l0_1).bind fun t153=>(if t153 = true then ((spec_FormatInt.f k a0_0).bind fun t154=>(spec_FormatGraph.l0 k t154 l0_1 (l0_1.length : Int) 0)) else (some (⟨#[]⟩ : ByteArray)))) = some r:=h
 clear h
 replace H:=Option.bind_eq_some_iff.mp H
 obtain ⟨t153,A20,H⟩:=H
 replace H : (if t153 = true then ((spec_FormatInt.f k a0_0).bind fun t154=>(spec_FormatGraph.l0 k t154 l0_1 (l0_1.length : Int) 0)) else (some (⟨#[]⟩ : ByteArray))) = some r:=H
 have A2:=Aside0.mk A20
 clear A20
 by_cases c3 : t153 = true
 ·subst c3
  have H1 : ((spec_FormatInt.f k a0_0).bind fun t154=>(spec_FormatGraph.l0 k t154 l0_1 (l0_1.length : Int) 0)) = some r:=by rw [if_pos rfl] at H;exact H
  clear H
  have H:=H1
  clear H1
  replace H:=Option.bind_eq_some_iff.mp H
  obtain ⟨t154,A40,H⟩:=H
  replace H : (spec_FormatGraph.l0 k t154 l0_1 (l0_1.length : Int) 0) = some r:=H
  have A4:=Aside0.mk A40
  clear A40
  have H':=Aside0.mk H
  clear H
  go_enter Tryz.func13,Tryz.ntmps13
  go_wp2_with (first | ((with_reducible refine gate_dst (N:=1) rfl ?_);refine box_event ?hg (N:=1) ?hd (cs:=#[.int .i64 a0_0,.slice A0_1 l0_1.length c0_1]) (t:=24) ?hr ?_;(case hd=>rfl);(case hg=>rfl);(case hr=>first | (go_simp;done) | (go_simp;rfl));intro gb152 hg w5 hbox hb;have n0_:=Aside0.mk (below_step (by repeat (first | (with_reducible first | exact HB.out | apply below_alloc | apply pw_below_drewN | apply below_drew1) | exact HB.out)) hb);have n1_:=Aside0.mk (hbox);have n2_:=Aside0.mk ((by rw [hg];exact (below_size (by repeat (first | (with_reducible first | exact HB.out | apply below_alloc | apply pw_below_drewN | apply below_drew1) | exact HB.out))) : w.heap.size ≤ gb152));have n3_:=Aside0.mk ((by rw [hg];exact (below_size (by repeat (first | (with_reducible first | exact HB.out | apply below_alloc | apply pw_below_drewN | apply below_drew1) | exact HB.out))) : w.heap.size ≤ gb152));clear HB;have HB:=n0_;have BK152:=n1_;have GW152:=n2_;have GE152:=n3_;clear n0_ n1_ n2_ n3_;clear hb hbox hg;have hcz6_0 : w5.cell? ⟨gb152,0,none⟩ = some (.int .i64 a0_0):=(blk_cell BK152.out 0).trans rfl;have hcz6_1 : w5.cell? ⟨gb152,1,none⟩ = some (.slice A0_1 l0_1.length c0_1):=(blk_cell BK152.out 1).trans rfl;have hfz6_0:=blk_frozen BK152.out 0;have hfz6_1:=blk_frozen BK152.out 1) | ((with_reducible refine gate_callee (f:=27) rfl ?_);refine goesL_ (some 9) rfl rfl Tryz.func27 (by kernel_rfl) rfl #[.agg #[.int .i64 a0_0,.slice A0_1 l0_1.length c0_1]] rfl (by (try simp only [List.map_toArray,List.map_cons,List.map_nil]);first | done | rfl | (simp only [List.length_drop,List.length_take];rfl)) ?_;(with_reducible refine (spec_GraphOk.calls k a0_0 _ _ l0_1 true _ ?side1 ?side2 A2.out).mono ?_);(case side1=>repeat (first | exact (Kd.C_below HR0_1.out HB.out) | (with_reducible refine Kd.C_alloc ?_ _) | (with_reducible refine Kd.C_drewN ?_ _) | (with_reducible refine Kd.C_drew ?_)));(case side2=>exact HC0_1.out);rintro e w7 ⟨rfl,hb⟩;refine ⟨_,rfl,?_⟩;have n0_:=Aside0.mk (blk_below (g:=gb152) (o:=.cells #[.int .i64 a0_0,.slice A0_1 l0_1.length c0_1] 24 (0,0)) (by (with_reducible repeat (first | refine blk_drewN ?_ _ | refine blk_drew ?_ | refine blk_alloc ?_ _));exact BK152.out) hb);have n1_:=Aside0.mk (below_step (by repeat (first | (with_reducible first | exact HB.out | apply below_alloc | apply pw_below_drewN | apply below_drew1 | refine below_set ?_ GE152.out) | exact HB.out)) hb);clear BK152;clear HB;have BK152:=n0_;have HB:=n1_;clear n0_ n1_;(try clear hb);(try clear hb2);(try clear hk);(try clear hi);have hcz8_0 : w7.cell? ⟨gb152,0,none⟩ = some (.int .i64 a0_0):=(blk_cell BK152.out 0).trans rfl;have hcz8_1 : w7.cell? ⟨gb152,1,none⟩ = some (.slice A0_1 l0_1.length c0_1):=(blk_cell BK152.out 1).trans rfl;have hfz8_0:=blk_frozen BK152.out 0;have hfz8_1:=blk_frozen BK152.out 1) | ((with_reducible refine gate_callee (f:=25) rfl ?_);refine goesL_ (some 13) rfl rfl Tryz.func25 (by kernel_rfl) rfl #[.int .i64 a0_0] rfl (by (try simp only [List.map_toArray,List.map_cons,List.map_nil]);first | done | rfl | (simp only [List.length_drop,List.length_take];rfl)) ?_;(with_reducible refine (spec_FormatInt.calls k a0_0 t154 _ A4.out).mono ?_);rintro e w9 ⟨rfl,hb⟩;refine ⟨_,rfl,?_⟩;have n0_:=Aside0.mk (blk_below (g:=gb152) (o:=.cells #[.int .i64 a0_0,.slice A0_1 l0_1.length c0_1] 24 (0,0)) (by (with_reducible repeat (first | refine blk_drewN ?_ _ | refine blk_drew ?_ | refine blk_alloc ?_ _));exact BK152.out) hb);have n1_:=Aside0.mk (below_step (by repeat (first | (with_reducible first | exact HB.out | apply below_alloc | apply pw_below_drewN | apply below_drew1 | refine below_set ?_ GE152.out) | exact HB.out)) hb);clear BK152;clear HB;have BK152:=n0_;have HB:=n1_;clear n0_ n1_;(try clear hb);(try clear hb2);(try clear hk);(try clear hi);have hcz10_0 : w9.cell? ⟨gb152,0,none⟩ = some (.int .i64 a0_0):=(blk_cell BK152.out 0).trans rfl;have hcz10_1 : w9.cell? ⟨gb152,1,none⟩ = some (.slice A0_1 l0_1.length c0_1):=(blk_cell BK152.out 1).trans rfl;have hfz10_0:=blk_frozen BK152.out 0;have hfz10_1:=blk_frozen BK152.out 1))
  go_loopg [3,17] k (fun kq v3 v17 w'=>∃ (x3_1 : ByteArray) (x17_1 : Int),v3 = .string x3_1 ∧ v17 = .int .i64 x17_1 ∧ Aside0 (spec_FormatGraph.l0 kq x3_1 l0_1 (l0_1.length : Int) x17_1 = some r) ∧ Aside0 (kq ≤ k) ∧ Aside0 (w'.heap[gb152]? = some (.cells #[.int .i64 a0_0,(.slice A0_1 l0_1.length c0_1)] 24 (0,0))) ∧ Aside0 (Below w.heap.size w w'))
  case atStart=>exact ⟨(t154),(0),(by first | rfl | (simp;done) | (simp [*];done)),(by first | rfl | (simp;done) | (simp [*];done)),H',⟨Nat.le_refl _⟩,⟨by (with_reducible repeat (first | refine blk_drewN ?_ _ | refine blk_drew ?_ | refine blk_alloc ?_ _));exact BK152.out⟩,⟨by repeat (first | (with_reducible first | exact HB.out | apply below_alloc | apply pw_below_drewN | apply below_drew1 | refine below_set ?_ GE152.out) | exact HB.out)⟩⟩
  case round =>
   clear H'
   try clear c1
   try clear c2
   try clear p2
   try clear c3
   try clear hcz10_0
   try clear hcz10_1
   try clear hcz6_0
   try clear hcz6_1
   try clear hcz8_0
   try clear hcz8_1
   try clear hfz10_0
   try clear hfz10_1
   try clear hfz6_0
   try clear hfz6_1
   try clear hfz8_0
   try clear hfz8_1
   obtain ⟨x3_1,x17_1,rfl,rfl,HA,HK1,BK152,HB⟩:=hrel
   cases gk with
   | zero=>exact absurd HA.out (by simp [spec_FormatGraph.l0])
   | succ k1 =>
    have H:=HA.out
    clear HA
    simp only [spec_FormatGraph.l0] at H
    by_cases c11 : x17_1 < (l0_1.length : Int)
    ·rw [if_pos c11] at H
     have c11b0 : decide (x17_1 < (l0_1.length : Int)) = true:=decide_eq_true c11
     clear c11
     by_cases c12 : 0 ≤ x17_1
     ·rw [if_pos c12] at H
      have c12b0 : decide (0 ≤ x17_1) = true:=decide_eq_true c12
      clear c12
      by_cases c13 : x17_1 < (l0_1.length : Int)
      ·rw [if_pos c13] at H
       have c13b0 : decide (x17_1 < (l0_1.length : Int)) = true:=decide_eq_true c13
       clear c13
       replace H:=Option.bind_eq_some_iff.mp H
       obtain ⟨t156,A140,H⟩:=H
       replace H : (spec_FormatGraph.l1 k1 x3_1 x17_1 l0_1 (l0_1.length : Int) x17_1 t156 (t156.length : Int) 0) = some r:=H
       have A14:=Aside0.mk A140
       clear A140
       have H':=Aside0.mk H
       clear H
       have p155 : 0 ≤ (x17_1 : Int):=of_decide_eq_true (by first | (with_reducible assumption) | assumption)
       have q155 : x17_1 < (l0_1.length : Int):=of_decide_eq_true (by first | (with_reducible assumption) | assumption)
       obtain ⟨ad155,e155,hx155_0⟩:=Kd.at_int HR0_1.out x17_1 p155 q155
       cases e155
       replace hx155_0:=(HB.out.cell (World.block_lt_of_cell? w _ hx155_0)).trans hx155_0
       replace p155:=eq_true p155
       replace q155:=eq_true q155
       go_wp2_with (first | ((with_reducible refine gate_callee (f:=28) rfl ?_);refine goesL_ (some 23) rfl rfl Tryz.func28 (by kernel_rfl) rfl #[.int .i64 (rd l0_1 x17_1)] rfl (by (try simp only [List.map_toArray,List.map_cons,List.map_nil]);first | done | rfl | (simp only [List.length_drop,List.length_take];rfl)) ?_;(with_reducible refine (spec_l02List.calls k1 (rd l0_1 x17_1) t156 _ A14.out).mono ?_);rintro e w15 ⟨v157,rfl,ho0,hb⟩;refine ⟨_,rfl,?_⟩;have n0_:=Aside0.mk (Kd.R_lower ho0 (below_size (by repeat (first | (with_reducible first | exact HB.out | apply below_alloc | apply pw_below_drewN | apply below_drew1 | refine below_set ?_ GE152.out) | exact HB.out))));have n1_:=Aside0.mk (blk_below (g:=gb152) (o:=.cells #[.int .i64 a0_0,.slice (some ad155) l0_1.length c0_1] 24 (0,0)) (by (with_reducible repeat (first | refine blk_drewN ?_ _ | refine blk_drew ?_ | refine blk_alloc ?_ _));exact BK152.out) hb);have n2_:=Aside0.mk (below_step (by repeat (first | (with_reducible first | exact HB.out | apply below_alloc | apply pw_below_drewN | apply below_drew1 | refine below_set ?_ GE152.out) | exact HB.out)) hb);clear BK152;clear HB;have HO158:=n0_;have BK152:=n1_;have HB:=n2_;clear n0_ n1_ n2_;(try clear hb);(try clear hb2);(try clear hk);(try clear hi);(try clear ho0);obtain ⟨Ao16,co16,eo16⟩:=Kd.R_slice HO158.out;subst eo16))
       go_loopg [3,25] k1 (fun kq v3 v25 w'=>∃ (x3_2 : ByteArray) (x25_2 : Int),v3 = .string x3_2 ∧ v25 = .int .i64 x25_2 ∧ Aside0 (spec_FormatGraph.l1 kq x3_2 x17_1 l0_1 (l0_1.length : Int) x17_1 t156 (t156.length : Int) x25_2 = some r) ∧ Aside0 (kq ≤ k1) ∧ Aside0 (Kd.R (Kd.int .i64) 3 w' w.heap.size (fun _=>True) (.slice Ao16 t156.length co16) t156) ∧ Aside0 (w'.heap[gb152]? = some (.cells #[.int .i64 a0_0,(.slice (some ad155) l0_1.length c0_1)] 24 (0,0))) ∧ Aside0 (Below w.heap.size w w'))
       case atStart=>exact ⟨(x3_1),(0),(by first | rfl | (simp;done) | (simp [*];done)),(by first | rfl | (simp;done) | (simp [*];done)),H',⟨Nat.le_refl _⟩,⟨by (with_reducible repeat (first | apply Kd.R_alloc | apply Kd.R_drewN | apply Kd.R_drew));exact HO158.out⟩,⟨by (with_reducible repeat (first | refine blk_drewN ?_ _ | refine blk_drew ?_ | refine blk_alloc ?_ _));exact BK152.out⟩,⟨by repeat (first | (with_reducible first | exact HB.out | apply below_alloc | apply pw_below_drewN | apply below_drew1 | refine below_set ?_ GE152.out) | exact HB.out)⟩⟩
       case round =>
        clear H'
        try clear c1
        try clear p1
        try clear q1
        try clear hx1
        try clear c2
        try clear p2
        try clear c3
        try clear c11
        try clear c11b0
        try clear c12
        try clear c12b0
        try clear c13
        try clear c13b0
        try clear p15
        try clear q15
        try clear hx15
        try clear hcz10_0
        try clear hcz10_1
        try clear hcz6_0
        try clear hcz6_1
        try clear hcz8_0
        try clear hcz8_1
        try clear hfz10_0
        try clear hfz10_1
        try clear hfz6_0
        try clear hfz6_1
        try clear hfz8_0
        try clear hfz8_1
        try clear hx155_0
        try clear p155
        try clear p2
        try clear q155
        obtain ⟨x3_2,x25_2,rfl,rfl,HA,HK2,HO_23,BK152,HB⟩:=hrel
        cases gk with
        | zero=>exact absurd HA.out (by simp [spec_FormatGraph.l1])
        | succ k2 =>
         have H:=HA.out
         clear HA
         simp only [spec_FormatGraph.l1] at H
         by_cases c17 : x25_2 < (t156.length : Int)
         ·rw [if_pos c17] at H
          have c17b0 : decide (x25_2 < (t156.length : Int)) = true:=decide_eq_true c17
          clear c17
          by_cases c18 : 0 ≤ x25_2
          ·rw [if_pos c18] at H
           have c18b0 : decide (0 ≤ x25_2) = true:=decide_eq_true c18
           clear c18
           by_cases c19 : x25_2 < (t156.length : Int)
           ·rw [if_pos c19] at H
            have c19b0 : decide (x25_2 < (t156.length : Int)) = true:=decide_eq_true c19
            clear c19
            by_cases c20 : x17_1 < (rd t156 x25_2)
            ·rw [if_pos c20] at H
             have c20b0 : decide (x17_1 < (rd t156 x25_2)) = true:=decide_eq_true c20
             clear c20
             by_cases c21 : x3_2.size + 1 ≤ 9223372036854775807
             ·rw [if_pos c21] at H
              have c21b0:=eq_true c21
              have c21b1 : decide (x3_2.size + 1 ≤ 9223372036854775807) = true:=decide_eq_true c21
              try have c21b2 : (9223372036854775807 < x3_2.size + 1) = False:=eq_false (Nat.not_lt.2 c21)
              replace H:=Option.bind_eq_some_iff.mp H
              obtain ⟨t160,A220,H⟩:=H
              replace H : (if (x3_2 ++ (⟨#[32]⟩ : ByteArray)).size + t160.size ≤ 9223372036854775807 then ((spec_FormatInt.f k2 (rd t156 x25_2)).bind fun t161=>(if ((x3_2 ++ (⟨#[32]⟩ : ByteArray)) ++ t160).size + t161.size ≤ 9223372036854775807 then (spec_FormatGraph.l1 k2 (((x3_2 ++ (⟨#[32]⟩ : ByteArray)) ++ t160) ++ t161) x17_1 l0_1 (l0_1.length : Int) x17_1 t156 (t156.length : Int) (wrap64 (x25_2 + 1))) else (none))) else (none)) = some r:=H
              have A22:=Aside0.mk A220
              clear A220
              by_cases c23 : (x3_2 ++ (⟨#[32]⟩ : ByteArray)).size + t160.size ≤ 9223372036854775807
              ·rw [if_pos c23] at H
               have c23b0:=eq_true c23
               have c23b1 : decide ((x3_2 ++ (⟨#[32]⟩ : ByteArray)).size + t160.size ≤ 9223372036854775807) = true:=decide_eq_true c23
               try have c23b2 : (9223372036854775807 < (x3_2 ++ (⟨#[32]⟩ : ByteArray)).size + t160.size) = False:=eq_false (Nat.not_lt.2 c23)
               have c23b5:=c23b0
               simp only [ByteArray.size_append,show ByteArray.size ⟨#[32]⟩ = 1 from rfl] at c23b5
               have c23b6:=c23b2
               simp only [ByteArray.size_append,show ByteArray.size ⟨#[32]⟩ = 1 from rfl] at c23b6
               replace H:=Option.bind_eq_some_iff.mp H
               obtain ⟨t161,A240,H⟩:=H
               replace H : (if ((x3_2 ++ (⟨#[32]⟩ : ByteArray)) ++ t160).size + t161.size ≤ 9223372036854775807 then (spec_FormatGraph.l1 k2 (((x3_2 ++ (⟨#[32]⟩ : ByteArray)) ++ t160) ++ t161) x17_1 l0_1 (l0_1.length : Int) x17_1 t156 (t156.length : Int) (wrap64 (x25_2 + 1))) else (none)) = some r:=H
               have A24:=Aside0.mk A240
               clear A240
               by_cases c25 : ((x3_2 ++ (⟨#[32]⟩ : ByteArray)) ++ t160).size + t161.size ≤ 9223372036854775807
               ·rw [if_pos c25] at H
                have c25b0:=eq_true c25
                have c25b1 : decide (((x3_2 ++ (⟨#[32]⟩ : ByteArray)) ++ t160).size + t161.size ≤ 9223372036854775807) = true:=decide_eq_true c25
                try have c25b2 : (9223372036854775807 < ((x3_2 ++ (⟨#[32]⟩ : ByteArray)) ++ t160).size + t161.size) = False:=eq_false (Nat.not_lt.2 c25)
                have c25b5:=c25b0
                simp only [ByteArray.size_append,show ByteArray.size ⟨#[32]⟩ = 1 from rfl] at c25b5
                have c25b6:=c25b2
                simp only [ByteArray.size_append,show ByteArray.size ⟨#[32]⟩ = 1 from rfl] at c25b6
                have H':=Aside0.mk H
                clear H
                have p159 : 0 ≤ (x25_2 : Int):=of_decide_eq_true (by first | (with_reducible assumption) | assumption)
                have q159 : x25_2 < (t156.length : Int):=of_decide_eq_true (by first | (with_reducible assumption) | assumption)
                obtain ⟨ad159,e159,hx159_0⟩:=Kd.at_int (Kd.R_reads' HO_23.out).2.2 x25_2 p159 q159
                cases e159
                replace p159:=eq_true p159
                replace q159:=eq_true q159
                go_wp2_with (first | ((with_reducible refine gate_callee (f:=25) rfl ?_);refine goesL_ (some 35) rfl rfl Tryz.func25 (by kernel_rfl) rfl #[.int .i64 x17_1] rfl (by (try simp only [List.map_toArray,List.map_cons,List.map_nil]);first | done | rfl | (simp only [List.length_drop,List.length_take];rfl)) ?_;(with_reducible refine (spec_FormatInt.calls k2 x17_1 t160 _ A22.out).mono ?_);rintro e w26 ⟨rfl,hb⟩;refine ⟨_,rfl,?_⟩;have n0_:=Aside0.mk (Kd.R_below (by (with_reducible repeat (first | apply Kd.R_alloc | apply Kd.R_drewN | apply Kd.R_drew));exact HO_23.out) hb);have n1_:=Aside0.mk (blk_below (g:=gb152) (o:=.cells #[.int .i64 a0_0,.slice (some ad155) l0_1.length c0_1] 24 (0,0)) (by (with_reducible repeat (first | refine blk_drewN ?_ _ | refine blk_drew ?_ | refine blk_alloc ?_ _));exact BK152.out) hb);have n2_:=Aside0.mk (below_step (by repeat (first | (with_reducible first | exact HB.out | apply below_alloc | apply pw_below_drewN | apply below_drew1 | refine below_set ?_ GE152.out) | exact HB.out)) hb);clear HO_23;clear BK152;clear HB;have HO_23:=n0_;have BK152:=n1_;have HB:=n2_;clear n0_ n1_ n2_;(try clear hb);(try clear hb2);(try clear hk);(try clear hi)) | ((with_reducible refine gate_callee (f:=25) rfl ?_);refine goesL_ (some 38) rfl rfl Tryz.func25 (by kernel_rfl) rfl #[.int .i64 (rd t156 x25_2)] rfl (by (try simp only [List.map_toArray,List.map_cons,List.map_nil]);first | done | rfl | (simp only [List.length_drop,List.length_take];rfl)) ?_;(with_reducible refine (spec_FormatInt.calls k2 (rd t156 x25_2) t161 _ A24.out).mono ?_);rintro e w27 ⟨rfl,hb⟩;refine ⟨_,rfl,?_⟩;have n0_:=Aside0.mk (Kd.R_below (by (with_reducible repeat (first | apply Kd.R_alloc | apply Kd.R_drewN | apply Kd.R_drew));exact HO_23.out) hb);have n1_:=Aside0.mk (blk_below (g:=gb152) (o:=.cells #[.int .i64 a0_0,.slice (some ad155) l0_1.length c0_1] 24 (0,0)) (by (with_reducible repeat (first | refine blk_drewN ?_ _ | refine blk_drew ?_ | refine blk_alloc ?_ _));exact BK152.out) hb);have n2_:=Aside0.mk (below_step (by repeat (first | (with_reducible first | exact HB.out | apply below_alloc | apply pw_below_drewN | apply below_drew1 | refine below_set ?_ GE152.out) | exact HB.out)) hb);clear HO_23;clear BK152;clear HB;have HO_23:=n0_;have BK152:=n1_;have HB:=n2_;clear n0_ n1_ n2_;(try clear hb);(try clear hb2);(try clear hk);(try clear hi)))
                go_roundg k2
                case measure=>have:=HK1.out;have:=HK2.out;omega
                case rel=>exact ⟨(((x3_2 ++ (⟨#[32]⟩ : ByteArray)) ++ t160) ++ t161),(wrap64 (x25_2 + 1)),(by first | rfl | (simp;done) | (simp [*];done)),(by first | rfl | (simp;done) | (simp [*];done)),H',⟨by have:=HK1.out;have:=HK2.out;omega⟩,⟨by (with_reducible repeat (first | apply Kd.R_alloc | apply Kd.R_drewN | apply Kd.R_drew));exact HO_23.out⟩,⟨by (with_reducible repeat (first | refine blk_drewN ?_ _ | refine blk_drew ?_ | refine blk_alloc ?_ _));exact BK152.out⟩,⟨by repeat (first | (with_reducible first | exact HB.out | apply below_alloc | apply pw_below_drewN | apply below_drew1 | refine below_set ?_ GE152.out) | exact HB.out)⟩⟩
               ·rw [if_neg c25] at H
                exact absurd H (by simp)
              ·rw [if_neg c23] at H
               exact absurd H (by simp)
             ·rw [if_neg c21] at H
              exact absurd H (by simp)
            ·rw [if_neg c20] at H
             have c20b0 : decide (x17_1 < (rd t156 x25_2)) = false:=decide_eq_false c20
             clear c20
             have H':=Aside0.mk H
             clear H
             have p159 : 0 ≤ (x25_2 : Int):=of_decide_eq_true (by first | (with_reducible assumption) | assumption)
             have q159 : x25_2 < (t156.length : Int):=of_decide_eq_true (by first | (with_reducible assumption) | assumption)
             obtain ⟨ad159,e159,hx159_0⟩:=Kd.at_int (Kd.R_reads' HO_23.out).2.2 x25_2 p159 q159
             cases e159
             replace p159:=eq_true p159
             replace q159:=eq_true q159
             go_wp2
             go_roundg k2
             case measure=>have:=HK1.out;have:=HK2.out;omega
             case rel=>exact ⟨(x3_2),(wrap64 (x25_2 + 1)),(by first | rfl | (simp;done) | (simp [*];done)),(by first | rfl | (simp;done) | (simp [*];done)),H',⟨by have:=HK1.out;have:=HK2.out;omega⟩,⟨by (with_reducible repeat (first | apply Kd.R_alloc | apply Kd.R_drewN | apply Kd.R_drew));exact HO_23.out⟩,⟨by (with_reducible repeat (first | refine blk_drewN ?_ _ | refine blk_drew ?_ | refine blk_alloc ?_ _));exact BK152.out⟩,⟨by repeat (first | (with_reducible first | exact HB.out | apply below_alloc | apply pw_below_drewN | apply below_drew1 | refine below_set ?_ GE152.out) | exact HB.out)⟩⟩
           ·rw [if_neg c19] at H
            exact absurd H (by simp)
          ·rw [if_neg c18] at H
           exact absurd H (by simp)
         ·rw [if_neg c17] at H
          have c17b0 : decide (x25_2 < (t156.length : Int)) = false:=decide_eq_false c17
          clear c17
          have H':=Aside0.mk H
          clear H
          go_wp2
          go_roundg k2
          case measure=>have:=HK1.out;have:=HK2.out;omega
          case rel=>exact ⟨(x3_2),(wrap64 (x17_1 + 1)),(by first | rfl | (simp;done) | (simp [*];done)),(by first | rfl | (simp;done) | (simp [*];done)),H',⟨by have:=HK1.out;have:=HK2.out;omega⟩,⟨by (with_reducible repeat (first | refine blk_drewN ?_ _ | refine blk_drew ?_ | refine blk_alloc ?_ _));exact BK152.out⟩,⟨by repeat (first | (with_reducible first | exact HB.out | apply below_alloc | apply pw_below_drewN | apply below_drew1 | refine below_set ?_ GE152.out) | exact HB.out)⟩⟩
      ·rw [if_neg c13] at H
       exact absurd H (by simp)
     ·rw [if_neg c12] at H
      exact absurd H (by simp)
    ·rw [if_neg c11] at H
     have c11b0 : decide (x17_1 < (l0_1.length : Int)) = false:=decide_eq_false c11
     clear c11
     obtain rfl:=Option.some.inj H
     go_wp2
     go_ret
     exact ⟨by first | rfl | (simp [errW_none,errW_some] <;> rfl) | (simp [*,errW_none,errW_some] <;> rfl),by repeat (first | (with_reducible first | exact HB.out | apply below_alloc | apply pw_below_drewN | apply below_drew1 | refine below_set ?_ GE152.out) | exact HB.out)⟩
 ·replace c3:=Bool.eq_false_iff.mpr c3
  subst c3
  have H1 : (some (⟨#[]⟩ : ByteArray)) = some r:=by rw [if_neg (show ¬ (false = true) by decide)] at H;exact H
  clear H
  have H:=H1
  clear H1
  obtain rfl:=Option.some.inj H
  go_enter Tryz.func13,Tryz.ntmps13
  go_wp2_with (first | ((with_reducible refine gate_dst (N:=1) rfl ?_);refine box_event ?hg (N:=1) ?hd (cs:=#[.int .i64 a0_0,.slice A0_1 l0_1.length c0_1]) (t:=24) ?hr ?_;(case hd=>rfl);(case hg=>rfl);(case hr=>first | (go_simp;done) | (go_simp;rfl));intro gb152 hg w28 hbox hb;have n0_:=Aside0.mk (below_step (by repeat (first | (with_reducible first | exact HB.out | apply below_alloc | apply pw_below_drewN | apply below_drew1) | exact HB.out)) hb);have n1_:=Aside0.mk (hbox);have n2_:=Aside0.mk ((by rw [hg];exact (below_size (by repeat (first | (with_reducible first | exact HB.out | apply below_alloc | apply pw_below_drewN | apply below_drew1) | exact HB.out))) : w.heap.size ≤ gb152));have n3_:=Aside0.mk ((by rw [hg];exact (below_size (by repeat (first | (with_reducible first | exact HB.out | apply below_alloc | apply pw_below_drewN | apply below_drew1) | exact HB.out))) : w.heap.size ≤ gb152));clear HB;have HB:=n0_;have BK152:=n1_;have GW152:=n2_;have GE152:=n3_;clear n0_ n1_ n2_ n3_;clear hb hbox hg;have hcz29_0 : w28.cell? ⟨gb152,0,none⟩ = some (.int .i64 a0_0):=(blk_cell BK152.out 0).trans rfl;have hcz29_1 : w28.cell? ⟨gb152,1,none⟩ = some (.slice A0_1 l0_1.length c0_1):=(blk_cell BK152.out 1).trans rfl;have hfz29_0:=blk_frozen BK152.out 0;have hfz29_1:=blk_frozen BK152.out 1) | ((with_reducible refine gate_callee (f:=27) rfl ?_);refine goesL_ (some 9) rfl rfl Tryz.func27 (by kernel_rfl) rfl #[.agg #[.int .i64 a0_0,.slice A0_1 l0_1.length c0_1]] rfl (by (try simp only [List.map_toArray,List.map_cons,List.map_nil]);first | done | rfl | (simp only [List.length_drop,List.length_take];rfl)) ?_;(with_reducible refine (spec_GraphOk.calls k a0_0 _ _ l0_1 false _ ?side1 ?side2 A2.out).mono ?_);(case side1=>repeat (first | exact (Kd.C_below HR0_1.out HB.out) | (with_reducible refine Kd.C_alloc ?_ _) | (with_reducible refine Kd.C_drewN ?_ _) | (with_reducible refine Kd.C_drew ?_)));(case side2=>exact HC0_1.out);rintro e w30 ⟨rfl,hb⟩;refine ⟨_,rfl,?_⟩;have n0_:=Aside0.mk (blk_below (g:=gb152) (o:=.cells #[.int .i64 a0_0,.slice A0_1 l0_1.length c0_1] 24 (0,0)) (by (with_reducible repeat (first | refine blk_drewN ?_ _ | refine blk_drew ?_ | refine blk_alloc ?_ _));exact BK152.out) hb);have n1_:=Aside0.mk (below_step (by repeat (first | (with_reducible first | exact HB.out | apply below_alloc | apply pw_below_drewN | apply below_drew1 | refine below_set ?_ GE152.out) | exact HB.out)) hb);clear BK152;clear HB;have BK152:=n0_;have HB:=n1_;clear n0_ n1_;(try clear hb);(try clear hb2);(try clear hk);(try clear hi)))
  go_ret
  exact ⟨by first | rfl | (simp [errW_none,errW_some] <;> rfl) | (simp [*,errW_none,errW_some] <;> rfl),by repeat (first | (with_reducible first | exact HB.out | apply below_alloc | apply pw_below_drewN | apply below_drew1 | refine below_set ?_ GE152.out) | exact HB.out)⟩

end Go.Proofs.YthfjphkhpfmdcaaGreatDoor.Q
