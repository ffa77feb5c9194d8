-- Made by a program of this session (wip/tools), out of Lean's own print of the translation.
import Derived.Test.YthfjphkhpfmdcaaGreatDoorMCardFnExactParseGraph0
import Derived.Test.YthfjphkhpfmdcaaGreatDoorQx14N
import Derived.Test.YthfjphkhpfmdcaaGreatDoorXItoaN
import Derived.Test.YthfjphkhpfmdcaaGreatDoorXJoinN
import Derived.Test.YthfjphkhpfmdcaaGreatDoorXTrimN
namespace Go.Proofs.YthfjphkhpfmdcaaGreatDoor.Q
open Go.RowKit Go.Proofs.YthfjphkhpfmdcaaGreatDoorW.PrintWords Go.Proofs.YthfjphkhpfmdcaaGreatDoorW.PrintLast Go.Proofs.YthfjphkhpfmdcaaGreatDoorW.PrintMore
attribute [local go_sem] max2_int min2_int max_two min_two max_three min_three max_four min_four   -- for this text's walks alone
set_option linter.unusedVariables false
set_option linter.unusedSimpArgs false



-- NOT PRINTED: function 86 (strconv_formatBits)

-- NOT PRINTED: function 69 (strconv_FormatInt)

-- NOT PRINTED: function 48 (strconv_Itoa_48)


-- NOT PRINTED: function 67 (strconv_baseError)

-- NOT PRINTED: function 68 (strconv_bitSizeError)

-- NOT PRINTED: function 47 (strconv_toError)

-- NOT PRINTED: function 30 (strconv_Atoi_30)




-- NOT PRINTED: function 87 (strings_IndexRune)

-- NOT PRINTED: function 71 (strings_ContainsRune)

-- NOT PRINTED: function 54 (strings_trimLeftUnicode)

-- NOT PRINTED: function 55 (strings_trimRightUnicode)


/-! ### impl_IsDigits: function 17 -/
def impl_IsDigits.f (a0 : ByteArray) : Option (Bool):=if a0.toList = ([] : List UInt8) then (some false) else ((strings_Trim.f a0 (⟨#[48,49,50,51,52,53,54,55,56,57]⟩ : ByteArray)).bind fun t203=>(some (t203.toList == ([] : List UInt8))))
set_option maxHeartbeats 8000000 in
set_option maxRecDepth 100000 in
theorem impl_IsDigits.calls (a0 : ByteArray) (r : Bool) (w : World) (h : impl_IsDigits.f a0 = some r) :
  Calls Tryz.prog 17 #[.string a0] w fun e w'=>e = .returned (.bool r) ∧ Below w.heap.size w w':=by
 have HB:=Aside0.mk (Below.refl w.heap.size w)
 have H : (if a0.toList = ([] : List UInt8) then (some false) else ((strings_Trim.f a0 (⟨#[48,49,50,51,52,53,54,55,56,57]⟩ : ByteArray)).bind fun t203=>(some (t203.toList == ([] : List UInt8))))) = some r:=h
 clear h
 by_cases c2 : a0.toList = ([] : List UInt8)
 ·rw [if_pos c2] at H
  have c2b0 : (a0.toList == ([] : List UInt8)) = true:=beq_iff_eq.mpr c2
  have c2b1 : (a0.toList != ([] : List UInt8)) = false:=bne_eq_false_iff_eq.mpr c2
  clear c2
  obtain rfl:=Option.some.inj H
  go_enter Tryz.func17,Tryz.ntmps17
  go_wp2
  go_ret
  exact ⟨by first | rfl | (simp [errW_none,errW_some] <;> rfl) | (simp [*,errW_none,errW_some] <;> rfl),by repeat (first | (with_reducible first | exact HB.out | apply below_alloc | apply pw_below_drewN | apply below_drew1) | exact HB.out)⟩
 ·rw [if_neg c2] at H
  have c2b0 : (a0.toList == ([] : List UInt8)) = false:=beq_eq_false_iff_ne.mpr c2
  have c2b1 : (a0.toList != ([] : List UInt8)) = true:=bne_iff_ne.mpr c2
  replace H:=Option.bind_eq_some_iff.mp H
  obtain ⟨t203,A30,H⟩:=H
  replace H : (some (t203.toList == ([] : List UInt8))) = some r:=H
  have A3:=Aside0.mk A30
  clear A30
  obtain rfl:=Option.some.inj H
  go_enter Tryz.func17,Tryz.ntmps17
  go_wp2_with (first | (go_at_call 34;(with_reducible refine (strings_Trim.calls a0 (⟨#[48,49,50,51,52,53,54,55,56,57]⟩ : ByteArray) t203 _ A3.out).mono ?_);rintro e w4 ⟨rfl,hb⟩;have n0_:=Aside0.mk (below_step (by repeat (first | (with_reducible first | exact HB.out | apply below_alloc | apply pw_below_drewN | apply below_drew1) | exact HB.out)) hb);clear HB;have HB:=n0_;clear n0_;(try clear hb);(try clear hb2);(try clear hk);(try clear hi)))
  go_ret
  exact ⟨by first | rfl | (simp [errW_none,errW_some] <;> rfl) | (simp [*,errW_none,errW_some] <;> rfl),by repeat (first | (with_reducible first | exact HB.out | apply below_alloc | apply pw_below_drewN | apply below_drew1) | exact HB.out)⟩


/-! ### impl_FormatInt: function 39 -/
def impl_FormatInt.f (a0 : Int) : Option (ByteArray):=(strconv_Itoa_31.f a0).bind fun t204=>(some t204)
set_option maxHeartbeats 8000000 in
set_option maxRecDepth 100000 in
theorem impl_FormatInt.calls (a0 : Int) (r : ByteArray) (w : World) (hT_ : TabE w) (h : impl_FormatInt.f a0 = some r) :
  Calls Tryz.prog 39 #[.int .i64 a0] w fun e w'=>e = .returned (.string r) ∧ Below w.heap.size w w':=by
 have HT9_:=Aside0.mk hT_
 clear hT_
 have HB:=Aside0.mk (Below.refl w.heap.size w)
 have H : ((strconv_Itoa_31.f a0).bind fun t204=>(some t204)) = some r:=h
 clear h
 replace H:=Option.bind_eq_some_iff.mp H
 obtain ⟨t204,A20,H⟩:=H
 replace H : (some t204) = some r:=H
 have A2:=Aside0.mk A20
 clear A20
 obtain rfl:=Option.some.inj H
 go_enter Tryz.func39,Tryz.ntmps39
 go_wp2_with (first | ((with_reducible refine gate_callee (f:=31) rfl ?_);refine goesL_ (some 4) rfl rfl Tryz.func31 (by kernel_rfl) rfl #[.int .i64 a0] rfl (by (try simp only [List.map_toArray,List.map_cons,List.map_nil]);first | done | rfl | (simp only [List.length_drop,List.length_take];rfl)) ?_;(with_reducible refine (strconv_Itoa_31.calls a0 t204 _ ?sideT_ A2.out).mono ?_);(case sideT_=>first | exact HT9_.out | exact HT9_.out.below HB.out | (repeat (first | exact HT9_.out | exact HT9_.out.below HB.out | (with_reducible refine TabE.alloc ?_ _) | (with_reducible refine TabE.drewN ?_ _) | (with_reducible refine TabE.drew ?_))));rintro e w3 ⟨rfl,hb⟩;refine ⟨_,rfl,?_⟩;have n0_:=Aside0.mk (below_step (by repeat (first | (with_reducible first | exact HB.out | apply below_alloc | apply pw_below_drewN | apply below_drew1) | exact HB.out)) hb);clear HB;have HB:=n0_;clear n0_;(try clear hb);(try clear hb2);(try clear hk);(try clear hi)))
 go_ret
 exact ⟨by first | rfl | (simp [errW_none,errW_some] <;> rfl) | (simp [*,errW_none,errW_some] <;> rfl),by repeat (first | (with_reducible first | exact HB.out | apply below_alloc | apply pw_below_drewN | apply below_drew1) | exact HB.out)⟩


/-! ### impl_formatGraph: function 20 -/
mutual
def impl_formatGraph.l0 : Nat → List ByteArray → Int → Int → Int → List Int → Option (ByteArray)
 | 0,_,_,_,_,_=>none
 | k + 1,x3,x11,x12,x206000,x206001=>if x12 < x11 then (impl_formatGraph.l1 k x3 x12 (wrap64 (x12 + 1)) x11 x12 x206000 x206001) else ((strings_Join.f x3 (⟨#[32]⟩ : ByteArray)).bind fun t210=>(some t210))
def impl_formatGraph.l1 : Nat → List ByteArray → Int → Int → Int → Int → Int → List Int → Option (ByteArray)
 | 0,_,_,_,_,_,_,_=>none
 | k + 1,x3,x4,x5,x11,x12,x206000,x206001=>if x5 < x206000 then (if 0 ≤ x4 then (if x4 < (x206001.length : Int) then ((impl_has.f (rd x206001 x4) x5).bind fun t212=>(if t212 = true then ((impl_FormatInt.f x4).bind fun t213=>((impl_FormatInt.f x5).bind fun t214=>(if t213.size + t214.size ≤ 9223372036854775807 then (if x3.length < 8796093022208 then (impl_formatGraph.l1 k (x3 ++ [t213 ++ t214]) x4 (wrap64 (x5 + 1)) x11 x12 x206000 x206001) else (none)) else (none)))) else (impl_formatGraph.l1 k x3 x4 (wrap64 (x5 + 1)) x11 x12 x206000 x206001))) else (none)) else (none)) else (impl_formatGraph.l0 k x3 x11 (wrap64 (x12 + 1)) x206000 x206001)
end
def impl_formatGraph.f (k : Nat) (a0_0 : Int) (l0_1 : List Int) : Option (ByteArray):=(impl_FormatInt.f a0_0).bind fun t206=>(impl_formatGraph.l0 k (([t206] : List ByteArray)) a0_0 0 a0_0 l0_1)
set_option maxHeartbeats 8000000 in
set_option maxRecDepth 100000 in
theorem impl_formatGraph.calls (k : Nat) (a0_0 : Int) (A0_1 : Option Addr) (c0_1 : Nat) (l0_1 : List Int) (r : ByteArray) (w : World) (hr0_1 : Kd.C (Kd.int .i64) w A0_1 l0_1.length l0_1) (hc0_1 : l0_1.length ≤ c0_1) (hT_ : TabE w) (h : impl_formatGraph.f k a0_0 l0_1 = some r) :
  Calls Tryz.prog 20 #[.agg #[.int .i64 a0_0,.slice A0_1 l0_1.length c0_1]] w fun e w'=>e = .returned (.string r) ∧ Below w.heap.size w w':=by
 have HT9_:=Aside0.mk hT_
 clear hT_
 have hu24:=Tryz.underlying24
 have HR0_1:=Aside0.mk hr0_1
 have HC0_1:=Aside0.mk hc0_1
 clear hr0_1 hc0_1
 have HB:=Aside0.mk (Below.refl w.heap.size w)
 have H : ((impl_FormatInt.f a0_0).bind fun t206=>(impl_formatGraph.l0 k (([t206] : List ByteArray)) a0_0 0 a0_0 l0_1)) = some r:=h
 clear h
 replace H:=Option.bind_eq_some_iff.mp H
 obtain ⟨t206,A20,H⟩:=H
 replace H : (impl_formatGraph.l0 k (([t206] : List ByteArray)) a0_0 0 a0_0 l0_1) = some r:=H
 have A2:=Aside0.mk A20
 clear A20
 obtain ⟨y207,hy207⟩ : ∃ y_ : List ByteArray,y_ = (([t206] : List ByteArray)):=⟨_,rfl⟩
 replace H : (impl_formatGraph.l0 k y207 a0_0 0 a0_0 l0_1) = some r:=by first | (rw [hy207];with_reducible exact H) | (have H2_:=(Option.bind_some _ _).symm.trans H;rw [hy207];with_reducible exact H2_) | (have H2_:=(Option.bind_some _ _).symm.trans H;with_reducible exact H2_) | with_reducible exact H | (rw [hy207];exact H) | exact H
 have Ny207:=Aside0.mk hy207
 clear hy207
 have H':=Aside0.mk H
 clear H
 go_enter Tryz.func20,Tryz.ntmps20
 go_wp2_with (first | ((with_reducible refine gate_dst (N:=1) rfl ?_);refine box_event ?hg (N:=1) ?hd (cs:=#[.int .i64 a0_0,.slice A0_1 l0_1.length c0_1]) (t:=24) ?hr ?_;(case hd=>rfl);(case hg=>rfl);(case hr=>first | (go_simp;done) | (go_simp;rfl));intro gb205 hg w3 hbox hb;have n0_:=Aside0.mk (below_step (by repeat (first | (with_reducible first | exact HB.out | apply below_alloc | apply pw_below_drewN | apply below_drew1) | exact HB.out)) hb);have n1_:=Aside0.mk (hbox);have n2_:=Aside0.mk ((by rw [hg];exact (below_size (by repeat (first | (with_reducible first | exact HB.out | apply below_alloc | apply pw_below_drewN | apply below_drew1) | exact HB.out))) : w.heap.size ≤ gb205));have n3_:=Aside0.mk ((by rw [hg];exact (below_size (by repeat (first | (with_reducible first | exact HB.out | apply below_alloc | apply pw_below_drewN | apply below_drew1) | exact HB.out))) : w.heap.size ≤ gb205));clear HB;have HB:=n0_;have BK205:=n1_;have GW205:=n2_;have GE205:=n3_;clear n0_ n1_ n2_ n3_;clear hb hbox hg;have hcz4_0 : w3.cell? ⟨gb205,0,none⟩ = some (.int .i64 a0_0):=(blk_cell BK205.out 0).trans rfl;have hcz4_1 : w3.cell? ⟨gb205,1,none⟩ = some (.slice A0_1 l0_1.length c0_1):=(blk_cell BK205.out 1).trans rfl;have hfz4_0:=blk_frozen BK205.out 0;have hfz4_1:=blk_frozen BK205.out 1) | ((with_reducible refine gate_callee (f:=39) rfl ?_);refine goesL_ (some 8) rfl rfl Tryz.func39 (by kernel_rfl) rfl #[.int .i64 a0_0] rfl (by (try simp only [List.map_toArray,List.map_cons,List.map_nil]);first | done | rfl | (simp only [List.length_drop,List.length_take];rfl)) ?_;(with_reducible refine (impl_FormatInt.calls a0_0 t206 _ ?sideT_ A2.out).mono ?_);(case sideT_=>first | exact HT9_.out | exact HT9_.out.below HB.out | (repeat (first | exact HT9_.out | exact HT9_.out.below HB.out | (with_reducible refine TabE.alloc ?_ _) | (with_reducible refine TabE.drewN ?_ _) | (with_reducible refine TabE.drew ?_))));rintro e w5 ⟨rfl,hb⟩;refine ⟨_,rfl,?_⟩;have n0_:=Aside0.mk (blk_below (g:=gb205) (o:=.cells #[.int .i64 a0_0,.slice A0_1 l0_1.length c0_1] 24 (0,0)) (by (with_reducible repeat (first | refine blk_drewN ?_ _ | refine blk_drew ?_ | refine blk_alloc ?_ _));exact BK205.out) hb);have n1_:=Aside0.mk (below_step (by repeat (first | (with_reducible first | exact HB.out | apply below_alloc | apply pw_below_drewN | apply below_drew1 | refine below_set ?_ GE205.out) | exact HB.out)) hb);clear BK205;clear HB;have BK205:=n0_;have HB:=n1_;clear n0_ n1_;(try clear hb);(try clear hb2);(try clear hk);(try clear hi)) | ((with_reducible refine gate_dst (N:=9) rfl ?_);refine Kd.R_lit Kd.string _ 9 ?hg (N:=9) ?hd (xs:=([t206] : List ByteArray)) (inner:=[.string t206]) (ok:=fun _=>True) (okp:=fun _=>True) ?hr ?hp (fun _ hk=>hk) trivial (Below.refl _ _) (Nat.le_refl _) (by simp) ?_;(case hd=>rfl);(case hg=>rfl);(case hr=>first | (go_simp;done) | (go_simp;rfl));(case hp=>exact (Reps.one (show Kd.M Kd.string _ _ _ t206 [.string t206] from rfl) (Reps.none _ _)));intro v208 w6 ho7 hb hg_ hnew_;clear hg_ hnew_;(first | rw [← Ny207.out] at ho7 | (simp only [Int.reduceToNat] at ho7;rw [← Ny207.out] at ho7));have n0_:=Aside0.mk (Kd.R_lower ho7 (below_size (by repeat (first | (with_reducible first | exact HB.out | apply below_alloc | apply pw_below_drewN | apply below_drew1 | refine below_set ?_ GE205.out) | exact HB.out))));have n1_:=Aside0.mk (blk_below (g:=gb205) (o:=.cells #[.int .i64 a0_0,.slice A0_1 l0_1.length c0_1] 24 (0,0)) (by (with_reducible repeat (first | refine blk_drewN ?_ _ | refine blk_drew ?_ | refine blk_alloc ?_ _));exact BK205.out) hb);have n2_:=Aside0.mk (below_step (by repeat (first | (with_reducible first | exact HB.out | apply below_alloc | apply pw_below_drewN | apply below_drew1 | refine below_set ?_ GE205.out) | exact HB.out)) hb);clear BK205;clear HB;have HO209:=n0_;have BK205:=n1_;have HB:=n2_;clear n0_ n1_ n2_;clear hb ho7;have hcz8_0 : w6.cell? ⟨gb205,0,none⟩ = some (.int .i64 a0_0):=(blk_cell BK205.out 0).trans rfl;have hcz8_1 : w6.cell? ⟨gb205,1,none⟩ = some (.slice A0_1 l0_1.length c0_1):=(blk_cell BK205.out 1).trans rfl;have hfz8_0:=blk_frozen BK205.out 0;have hfz8_1:=blk_frozen BK205.out 1))
 go_loopg [3,12] k (fun kq v3 v12 w'=>∃ (x3_1 : List ByteArray) (x12_1 : Int),v12 = .int .i64 x12_1 ∧ Aside0 (impl_formatGraph.l0 kq x3_1 a0_0 x12_1 a0_0 l0_1 = some r) ∧ Aside0 (kq ≤ k) ∧ Aside0 (Kd.R Kd.string 9 w' w.heap.size (fun _=>True) v3 x3_1) ∧ Aside0 (w'.heap[gb205]? = some (.cells #[.int .i64 a0_0,(.slice A0_1 l0_1.length c0_1)] 24 (0,0))) ∧ Aside0 (Below w.heap.size w w'))
 case atStart=>exact ⟨(y207),(0),(by first | rfl | (simp;done) | (simp [*];done)),H',⟨Nat.le_refl _⟩,⟨by (with_reducible repeat (first | apply Kd.R_alloc | apply Kd.R_drewN | apply Kd.R_drew));exact HO209.out⟩,⟨by (with_reducible repeat (first | refine blk_drewN ?_ _ | refine blk_drew ?_ | refine blk_alloc ?_ _));exact BK205.out⟩,⟨by repeat (first | (with_reducible first | exact HB.out | apply below_alloc | apply pw_below_drewN | apply below_drew1 | refine below_set ?_ GE205.out) | exact HB.out)⟩⟩
 case round =>
  clear H'
  try clear c2
  try clear p2
  try clear c3
  try clear hcz4_0
  try clear hcz4_1
  try clear hcz8_0
  try clear hcz8_1
  try clear hfz4_0
  try clear hfz4_1
  try clear hfz8_0
  try clear hfz8_1
  obtain ⟨x3_1,x12_1,rfl,HA,HK1,HO_3,BK205,HB⟩:=hrel
  cases gk with
  | zero=>exact absurd HA.out (by simp [impl_formatGraph.l0])
  | succ k1 =>
   have H:=HA.out
   clear HA
   simp only [impl_formatGraph.l0] at H
   by_cases c9 : x12_1 < a0_0
   ·rw [if_pos c9] at H
    have c9b0 : decide (x12_1 < a0_0) = true:=decide_eq_true c9
    clear c9
    have H':=Aside0.mk H
    clear H
    go_wp2
    go_loopg [3,5] k1 (fun kq v3 v5 w'=>∃ (x3_2 : List ByteArray) (x5_2 : Int),v5 = .int .i64 x5_2 ∧ Aside0 (impl_formatGraph.l1 kq x3_2 x12_1 x5_2 a0_0 x12_1 a0_0 l0_1 = some r) ∧ Aside0 (kq ≤ k1) ∧ Aside0 (Kd.R Kd.string 9 w' w.heap.size (fun _=>True) v3 x3_2) ∧ Aside0 (w'.heap[gb205]? = some (.cells #[.int .i64 a0_0,(.slice A0_1 l0_1.length c0_1)] 24 (0,0))) ∧ Aside0 (Below w.heap.size w w'))
    case atStart=>exact ⟨(x3_1),(wrap64 (x12_1 + 1)),(by first | rfl | (simp;done) | (simp [*];done)),H',⟨Nat.le_refl _⟩,⟨by (with_reducible repeat (first | apply Kd.R_alloc | apply Kd.R_drewN | apply Kd.R_drew));exact HO_3.out⟩,⟨by (with_reducible repeat (first | refine blk_drewN ?_ _ | refine blk_drew ?_ | refine blk_alloc ?_ _));exact BK205.out⟩,⟨by repeat (first | (with_reducible first | exact HB.out | apply below_alloc | apply pw_below_drewN | apply below_drew1 | refine below_set ?_ GE205.out) | exact HB.out)⟩⟩
    case round =>
     clear H'
     try clear c2
     try clear p2
     try clear c3
     try clear p6
     try clear c9
     try clear c9b0
     try clear hcz4_0
     try clear hcz4_1
     try clear hcz8_0
     try clear hcz8_1
     try clear hfz4_0
     try clear hfz4_1
     try clear hfz8_0
     try clear hfz8_1
     try clear p2
     obtain ⟨x3_2,x5_2,rfl,HA,HK2,HO_3,BK205,HB⟩:=hrel
     cases gk with
     | zero=>exact absurd HA.out (by simp [impl_formatGraph.l1])
     | succ k2 =>
      have H:=HA.out
      clear HA
      simp only [impl_formatGraph.l1] at H
      by_cases c10 : x5_2 < a0_0
      ·rw [if_pos c10] at H
       have c10b0 : decide (x5_2 < a0_0) = true:=decide_eq_true c10
       clear c10
       by_cases c11 : 0 ≤ x12_1
       ·rw [if_pos c11] at H
        have c11b0 : decide (0 ≤ x12_1) = true:=decide_eq_true c11
        clear c11
        by_cases c12 : x12_1 < (l0_1.length : Int)
        ·rw [if_pos c12] at H
         have c12b0 : decide (x12_1 < (l0_1.length : Int)) = true:=decide_eq_true c12
         clear c12
         replace H:=Option.bind_eq_some_iff.mp H
         obtain ⟨t212,A130,H⟩:=H
         replace H : (if t212 = true then ((impl_FormatInt.f x12_1).bind fun t213=>((impl_FormatInt.f x5_2).bind fun t214=>(if t213.size + t214.size ≤ 9223372036854775807 then (if x3_2.length < 8796093022208 then (impl_formatGraph.l1 k2 (x3_2 ++ [t213 ++ t214]) x12_1 (wrap64 (x5_2 + 1)) a0_0 x12_1 a0_0 l0_1) else (none)) else (none)))) else (impl_formatGraph.l1 k2 x3_2 x12_1 (wrap64 (x5_2 + 1)) a0_0 x12_1 a0_0 l0_1)) = some r:=H
         have A13:=Aside0.mk A130
         clear A130
         by_cases c14 : t212 = true
         ·subst c14
          have H1 : ((impl_FormatInt.f x12_1).bind fun t213=>((impl_FormatInt.f x5_2).bind fun t214=>(if t213.size + t214.size ≤ 9223372036854775807 then (if x3_2.length < 8796093022208 then (impl_formatGraph.l1 k2 (x3_2 ++ [t213 ++ t214]) x12_1 (wrap64 (x5_2 + 1)) a0_0 x12_1 a0_0 l0_1) else (none)) else (none)))) = some r:=by rw [if_pos rfl] at H;exact H
          clear H
          have H:=H1
          clear H1
          replace H:=Option.bind_eq_some_iff.mp H
          obtain ⟨t213,A150,H⟩:=H
          replace H : ((impl_FormatInt.f x5_2).bind fun t214=>(if t213.size + t214.size ≤ 9223372036854775807 then (if x3_2.length < 8796093022208 then (impl_formatGraph.l1 k2 (x3_2 ++ [t213 ++ t214]) x12_1 (wrap64 (x5_2 + 1)) a0_0 x12_1 a0_0 l0_1) else (none)) else (none))) = some r:=H
          have A15:=Aside0.mk A150
          clear A150
          replace H:=Option.bind_eq_some_iff.mp H
          obtain ⟨t214,A160,H⟩:=H
          replace H : (if t213.size + t214.size ≤ 9223372036854775807 then (if x3_2.length < 8796093022208 then (impl_formatGraph.l1 k2 (x3_2 ++ [t213 ++ t214]) x12_1 (wrap64 (x5_2 + 1)) a0_0 x12_1 a0_0 l0_1) else (none)) else (none)) = some r:=H
          have A16:=Aside0.mk A160
          clear A160
          by_cases c17 : t213.size + t214.size ≤ 9223372036854775807
          ·rw [if_pos c17] at H
           have c17b0:=eq_true c17
           have c17b1 : decide (t213.size + t214.size ≤ 9223372036854775807) = true:=decide_eq_true c17
           try have c17b2 : (9223372036854775807 < t213.size + t214.size) = False:=eq_false (Nat.not_lt.2 c17)
           by_cases c18 : x3_2.length < 8796093022208
           ·rw [if_pos c18] at H
            have LMc18:=Aside0.mk c18
            clear c18
            obtain ⟨y215,hy215⟩ : ∃ y_ : List ByteArray,y_ = (x3_2 ++ [t213 ++ t214]):=⟨_,rfl⟩
            replace H : (impl_formatGraph.l1 k2 y215 x12_1 (wrap64 (x5_2 + 1)) a0_0 x12_1 a0_0 l0_1) = some r:=by first | (rw [hy215];with_reducible exact H) | (have H2_:=(Option.bind_some _ _).symm.trans H;rw [hy215];with_reducible exact H2_) | (have H2_:=(Option.bind_some _ _).symm.trans H;with_reducible exact H2_) | with_reducible exact H | (rw [hy215];exact H) | exact H
            have Ny215:=Aside0.mk hy215
            clear hy215
            have H':=Aside0.mk H
            clear H
            have hcz19_0 : wr.cell? ⟨gb205,0,none⟩ = some (.int .i64 a0_0):=(blk_cell BK205.out 0).trans rfl
            have hcz19_1 : wr.cell? ⟨gb205,1,none⟩ = some (.slice A0_1 l0_1.length c0_1):=(blk_cell BK205.out 1).trans rfl
            have hfz19_0:=blk_frozen BK205.out 0
            have hfz19_1:=blk_frozen BK205.out 1
            have p211 : 0 ≤ (x12_1 : Int):=of_decide_eq_true (by first | (with_reducible assumption) | assumption)
            have q211 : x12_1 < (l0_1.length : Int):=of_decide_eq_true (by first | (with_reducible assumption) | assumption)
            obtain ⟨ad211,e211,hx211_0⟩:=Kd.at_int HR0_1.out x12_1 p211 q211
            cases e211
            replace hx211_0:=(HB.out.cell (World.block_lt_of_cell? w _ hx211_0)).trans hx211_0
            replace p211:=eq_true p211
            replace q211:=eq_true q211
            go_wp2_with (first | ((with_reducible refine gate_callee (f:=40) rfl ?_);refine goesL_ (some 29) rfl rfl Tryz.func40 (by kernel_rfl) rfl #[.int .i64 (rd l0_1 x12_1),.int .i64 x5_2] rfl (by (try simp only [List.map_toArray,List.map_cons,List.map_nil]);first | done | rfl | (simp only [List.length_drop,List.length_take];rfl)) ?_;(with_reducible refine (impl_has.calls (rd l0_1 x12_1) x5_2 true _ A13.out).mono ?_);rintro e w' ⟨rfl,⟨nd,rfl⟩⟩;refine ⟨_,rfl,?_⟩) | ((with_reducible refine gate_callee (f:=39) rfl ?_);refine goesL_ (some 32) rfl rfl Tryz.func39 (by kernel_rfl) rfl #[.int .i64 x12_1] rfl (by (try simp only [List.map_toArray,List.map_cons,List.map_nil]);first | done | rfl | (simp only [List.length_drop,List.length_take];rfl)) ?_;(with_reducible refine (impl_FormatInt.calls x12_1 t213 _ ?sideT_ A15.out).mono ?_);(case sideT_=>first | exact HT9_.out | exact HT9_.out.below HB.out | (repeat (first | exact HT9_.out | exact HT9_.out.below HB.out | (with_reducible refine TabE.alloc ?_ _) | (with_reducible refine TabE.drewN ?_ _) | (with_reducible refine TabE.drew ?_))));rintro e w20 ⟨rfl,hb⟩;refine ⟨_,rfl,?_⟩;have n0_:=Aside0.mk (Kd.R_below (by (with_reducible repeat (first | apply Kd.R_alloc | apply Kd.R_drewN | apply Kd.R_drew));exact HO_3.out) hb);have n1_:=Aside0.mk (blk_below (g:=gb205) (o:=.cells #[.int .i64 a0_0,.slice (some ad211) l0_1.length c0_1] 24 (0,0)) (by (with_reducible repeat (first | refine blk_drewN ?_ _ | refine blk_drew ?_ | refine blk_alloc ?_ _));exact BK205.out) hb);have n2_:=Aside0.mk (below_step (by repeat (first | (with_reducible first | exact HB.out | apply below_alloc | apply pw_below_drewN | apply below_drew1 | refine below_set ?_ GE205.out) | exact HB.out)) hb);clear HO_3;clear BK205;clear HB;have HO_3:=n0_;have BK205:=n1_;have HB:=n2_;clear n0_ n1_ n2_;(try clear hb);(try clear hb2);(try clear hk);(try clear hi)) | ((with_reducible refine gate_callee (f:=39) rfl ?_);refine goesL_ (some 34) rfl rfl Tryz.func39 (by kernel_rfl) rfl #[.int .i64 x5_2] rfl (by (try simp only [List.map_toArray,List.map_cons,List.map_nil]);first | done | rfl | (simp only [List.length_drop,List.length_take];rfl)) ?_;(with_reducible refine (impl_FormatInt.calls x5_2 t214 _ ?sideT_ A16.out).mono ?_);(case sideT_=>first | exact HT9_.out | exact HT9_.out.below HB.out | (repeat (first | exact HT9_.out | exact HT9_.out.below HB.out | (with_reducible refine TabE.alloc ?_ _) | (with_reducible refine TabE.drewN ?_ _) | (with_reducible refine TabE.drew ?_))));rintro e w21 ⟨rfl,hb⟩;refine ⟨_,rfl,?_⟩;have n0_:=Aside0.mk (Kd.R_below (by (with_reducible repeat (first | apply Kd.R_alloc | apply Kd.R_drewN | apply Kd.R_drew));exact HO_3.out) hb);have n1_:=Aside0.mk (blk_below (g:=gb205) (o:=.cells #[.int .i64 a0_0,.slice (some ad211) l0_1.length c0_1] 24 (0,0)) (by (with_reducible repeat (first | refine blk_drewN ?_ _ | refine blk_drew ?_ | refine blk_alloc ?_ _));exact BK205.out) hb);have n2_:=Aside0.mk (below_step (by repeat (first | (with_reducible first | exact HB.out | apply below_alloc | apply pw_below_drewN | apply below_drew1 | refine below_set ?_ GE205.out) | exact HB.out)) hb);clear HO_3;clear BK205;clear HB;have HO_3:=n0_;have BK205:=n1_;have HB:=n2_;clear n0_ n1_ n2_;(try clear hb);(try clear hb2);(try clear hk);(try clear hi)) | ((with_reducible refine gate_builtin (b:=.append) (xs:=#[.tmp 30,.tmp 36]) rfl ?_);at_builtin;refine Kd.R_append Kd.string (w0:=w) w.heap.size rfl (.tmp 30) (.tmp 36) 30 9 (.string ⟨#[]⟩) 16 rfl Tryz.underlying30 info9 rfl (by decide) (by omega) u3 x3_2 (t213 ++ t214) [.string (t213 ++ t214)] (fun _=>True) (fun _=>False) rfl rfl ?aP (fun _ hk=>hk.elim) ?aF ?aO ?aB ?aS ?aL ?_;(case aP=>exact rfl);(case aB=>exact (by repeat (first | (with_reducible first | exact HB.out | apply below_alloc | apply pw_below_drewN | apply below_drew1 | refine below_set ?_ GE205.out) | exact HB.out)));(case aF=>exact (fun _ _=>trivial));(case aO=>exact (by (with_reducible repeat (first | apply Kd.R_alloc | apply Kd.R_drewN | apply Kd.R_drew));exact HO_3.out));(case aS=>exact (below_size (by repeat (first | (with_reducible first | exact HB.out | apply below_alloc | apply pw_below_drewN | apply below_drew1 | refine below_set ?_ GE205.out) | exact HB.out))));(case aL=>have:=LMc18.out;omega);intro v216 w22 ho hb hg hat;rw [← Ny215.out] at ho;have n0_:=Aside0.mk (blk_grown (g:=gb205) (o:=.cells #[.int .i64 a0_0,.slice (some ad211) l0_1.length c0_1] 24 (0,0)) (by (with_reducible repeat (first | refine blk_drewN ?_ _ | refine blk_drew ?_ | refine blk_alloc ?_ _));exact BK205.out) hg (Kd.R_ne HO_3.out BK205.out (by decide)));have n1_:=Aside0.mk (hb);have n2_:=Aside0.mk (ho);clear BK205;clear HB;clear HO_3;have BK205:=n0_;have HB:=n1_;have HO217:=n2_;clear n0_ n1_ n2_;clear ho hb hg hat))
            go_roundg k2
            case measure=>have:=HK1.out;have:=HK2.out;omega
            case rel=>exact ⟨(y215),(wrap64 (x5_2 + 1)),(by first | rfl | (simp;done) | (simp [*];done)),H',⟨by have:=HK1.out;have:=HK2.out;omega⟩,⟨by (with_reducible repeat (first | apply Kd.R_alloc | apply Kd.R_drewN | apply Kd.R_drew));exact HO217.out⟩,⟨by (with_reducible repeat (first | refine blk_drewN ?_ _ | refine blk_drew ?_ | refine blk_alloc ?_ _));exact BK205.out⟩,⟨by repeat (first | (with_reducible first | exact HB.out | apply below_alloc | apply pw_below_drewN | apply below_drew1 | refine below_set ?_ GE205.out) | exact HB.out)⟩⟩
           ·rw [if_neg c18] at H
            exact absurd H (by simp)
          ·rw [if_neg c17] at H
           exact absurd H (by simp)
         ·replace c14:=Bool.eq_false_iff.mpr c14
          subst c14
          have H1 : (impl_formatGraph.l1 k2 x3_2 x12_1 (wrap64 (x5_2 + 1)) a0_0 x12_1 a0_0 l0_1) = some r:=by rw [if_neg (show ¬ (false = true) by decide)] at H;exact H
          clear H
          have H:=H1
          clear H1
          have H':=Aside0.mk H
          clear H
          have hcz23_0 : wr.cell? ⟨gb205,0,none⟩ = some (.int .i64 a0_0):=(blk_cell BK205.out 0).trans rfl
          have hcz23_1 : wr.cell? ⟨gb205,1,none⟩ = some (.slice A0_1 l0_1.length c0_1):=(blk_cell BK205.out 1).trans rfl
          have hfz23_0:=blk_frozen BK205.out 0
          have hfz23_1:=blk_frozen BK205.out 1
          have p211 : 0 ≤ (x12_1 : Int):=of_decide_eq_true (by first | (with_reducible assumption) | assumption)
          have q211 : x12_1 < (l0_1.length : Int):=of_decide_eq_true (by first | (with_reducible assumption) | assumption)
          obtain ⟨ad211,e211,hx211_0⟩:=Kd.at_int HR0_1.out x12_1 p211 q211
          cases e211
          replace hx211_0:=(HB.out.cell (World.block_lt_of_cell? w _ hx211_0)).trans hx211_0
          replace p211:=eq_true p211
          replace q211:=eq_true q211
          go_wp2_with (first | ((with_reducible refine gate_callee (f:=40) rfl ?_);refine goesL_ (some 29) rfl rfl Tryz.func40 (by kernel_rfl) rfl #[.int .i64 (rd l0_1 x12_1),.int .i64 x5_2] rfl (by (try simp only [List.map_toArray,List.map_cons,List.map_nil]);first | done | rfl | (simp only [List.length_drop,List.length_take];rfl)) ?_;(with_reducible refine (impl_has.calls (rd l0_1 x12_1) x5_2 false _ A13.out).mono ?_);rintro e w' ⟨rfl,⟨nd,rfl⟩⟩;refine ⟨_,rfl,?_⟩))
          go_roundg k2
          case measure=>have:=HK1.out;have:=HK2.out;omega
          case rel=>exact ⟨(x3_2),(wrap64 (x5_2 + 1)),(by first | rfl | (simp;done) | (simp [*];done)),H',⟨by have:=HK1.out;have:=HK2.out;omega⟩,⟨by (with_reducible repeat (first | apply Kd.R_alloc | apply Kd.R_drewN | apply Kd.R_drew));exact HO_3.out⟩,⟨by (with_reducible repeat (first | refine blk_drewN ?_ _ | refine blk_drew ?_ | refine blk_alloc ?_ _));exact BK205.out⟩,⟨by repeat (first | (with_reducible first | exact HB.out | apply below_alloc | apply pw_below_drewN | apply below_drew1 | refine below_set ?_ GE205.out) | exact HB.out)⟩⟩
        ·rw [if_neg c12] at H
         exact absurd H (by simp)
       ·rw [if_neg c11] at H
        exact absurd H (by simp)
      ·rw [if_neg c10] at H
       have c10b0 : decide (x5_2 < a0_0) = false:=decide_eq_false c10
       clear c10
       have H':=Aside0.mk H
       clear H
       have hcz24_0 : wr.cell? ⟨gb205,0,none⟩ = some (.int .i64 a0_0):=(blk_cell BK205.out 0).trans rfl
       have hcz24_1 : wr.cell? ⟨gb205,1,none⟩ = some (.slice A0_1 l0_1.length c0_1):=(blk_cell BK205.out 1).trans rfl
       have hfz24_0:=blk_frozen BK205.out 0
       have hfz24_1:=blk_frozen BK205.out 1
       go_wp2
       go_roundg k2
       case measure=>have:=HK1.out;have:=HK2.out;omega
       case rel=>exact ⟨(x3_2),(wrap64 (x12_1 + 1)),(by first | rfl | (simp;done) | (simp [*];done)),H',⟨by have:=HK1.out;have:=HK2.out;omega⟩,⟨by (with_reducible repeat (first | apply Kd.R_alloc | apply Kd.R_drewN | apply Kd.R_drew));exact HO_3.out⟩,⟨by (with_reducible repeat (first | refine blk_drewN ?_ _ | refine blk_drew ?_ | refine blk_alloc ?_ _));exact BK205.out⟩,⟨by repeat (first | (with_reducible first | exact HB.out | apply below_alloc | apply pw_below_drewN | apply below_drew1 | refine below_set ?_ GE205.out) | exact HB.out)⟩⟩
   ·rw [if_neg c9] at H
    have c9b0 : decide (x12_1 < a0_0) = false:=decide_eq_false c9
    clear c9
    replace H:=Option.bind_eq_some_iff.mp H
    obtain ⟨t210,A250,H⟩:=H
    replace H : (some t210) = some r:=H
    have A25:=Aside0.mk A250
    clear A250
    obtain rfl:=Option.some.inj H
    obtain ⟨Ao26,co26,eo26⟩:=Kd.R_slice HO_3.out
    subst eo26
    go_wp2_with (first | ((with_reducible refine gate_callee (f:=41) rfl ?_);refine goesL_ (some 40) rfl rfl Tryz.func41 (by kernel_rfl) rfl #[.slice Ao26 x3_1.length co26,.string (⟨#[32]⟩ : ByteArray)] rfl (by (try simp only [List.map_toArray,List.map_cons,List.map_nil]);first | done | rfl | (simp only [List.length_drop,List.length_take];rfl)) ?_;(with_reducible refine (strings_Join.calls _ _ x3_1 (⟨#[32]⟩ : ByteArray) t210 _ ?side1 ?side2 A25.out).mono ?_);(case side1=>repeat (first | exact (Kd.R_reads' HO_3.out).2.2 | (with_reducible refine Kd.C_alloc ?_ _) | (with_reducible refine Kd.C_drewN ?_ _) | (with_reducible refine Kd.C_drew ?_)));(case side2=>exact (Kd.R_reads' HO_3.out).2.1);rintro e w27 ⟨rfl,hb⟩;refine ⟨_,rfl,?_⟩;have n0_:=Aside0.mk (Kd.R_below (by (with_reducible repeat (first | apply Kd.R_alloc | apply Kd.R_drewN | apply Kd.R_drew));exact HO_3.out) hb);have n1_:=Aside0.mk (blk_below (g:=gb205) (o:=.cells #[.int .i64 a0_0,.slice A0_1 l0_1.length c0_1] 24 (0,0)) (by (with_reducible repeat (first | refine blk_drewN ?_ _ | refine blk_drew ?_ | refine blk_alloc ?_ _));exact BK205.out) hb);have n2_:=Aside0.mk (below_step (by repeat (first | (with_reducible first | exact HB.out | apply below_alloc | apply pw_below_drewN | apply below_drew1 | refine below_set ?_ GE205.out) | exact HB.out)) hb);clear HO_3;clear BK205;clear HB;have HO_3:=n0_;have BK205:=n1_;have HB:=n2_;clear n0_ n1_ n2_;(try clear hb);(try clear hb2);(try clear hk);(try clear hi)))
    go_ret
    exact ⟨by first | rfl | (simp [errW_none,errW_some] <;> rfl) | (simp [*,errW_none,errW_some] <;> rfl),by repeat (first | (with_reducible first | exact HB.out | apply below_alloc | apply pw_below_drewN | apply below_drew1 | refine below_set ?_ GE205.out) | exact HB.out)⟩

end Go.Proofs.YthfjphkhpfmdcaaGreatDoor.Q
