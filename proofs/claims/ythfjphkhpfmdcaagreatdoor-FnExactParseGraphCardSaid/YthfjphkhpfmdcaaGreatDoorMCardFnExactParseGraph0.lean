/- Texts of this session's programs, joined into one: the functions that the claim reaches and what they compute; no condition beside those that each names. -/
import Derived.Test.YthfjphkhpfmdcaaGreatDoorWMore
import Derived.Test.YthfjphkhpfmdcaaGreatDoorRows
import Derived.Shelf.Spec.TrailingZeros
import Derived.Lib.LaidTab
import Derived.Lib.ItoaNum
import Derived.WalkSmall
import Derived.LaidMore
import Derived.LaidLaws
import Derived.LaidHandle
import Derived.LaidSub
import Derived.MakeChecks
import Derived.Stop.LaidErr
import Derived.Test.YthfjphkhpfmdcaaGreatDoorProg
import Derived.Below
import Derived.Deep.Draws
import Derived.Deep.AppendLies
import Derived.Maps.AppendAt
import Derived.OwnWalk
import Derived.Laws.BytesArg
import Derived.Laws.MakeOwn
import Derived.Laws.OwnMore
import Derived.Deep.OwnRows
import Derived.Tactics
import Derived.Lib.ConvBytes
import Derived.Laws.Slices
import Derived.WalkKit
import Derived.KernelRfl
import Derived.RowKit3
import Derived.Deep.LoopGhost
import Derived.Deep.QuietTactic
import Derived.BigQuiet
import Derived.WideLaws
import Derived.Deep.DeepCutAuto
import Derived.Deep.CutBlock
import Derived.Deep.RegionHeld3
import Derived.Laws.Rows
import Derived.Lib.AppendStr
import Derived.ArgAppend
import Derived.Laws.IdiomCopy
import Derived.OrdersHeld
import Derived.Laws.BitsLemmas
import Derived.RowKit
import Derived.Test.YthfjphkhpfmdcaaGreatDoorWWords
import Derived.Test.YthfjphkhpfmdcaaGreatDoorWLast
import Derived.Test.YthfjphkhpfmdcaaGreatDoorWTab
import Derived.Test.YthfjphkhpfmdcaaGreatDoorWQPut
import Derived.Test.YthfjphkhpfmdcaaGreatDoorWApart
import Derived.Test.YthfjphkhpfmdcaaGreatDoorWFoot
import Derived.Test.YthfjphkhpfmdcaaGreatDoorWKept
import Derived.Test.YthfjphkhpfmdcaaGreatDoorWShare
import Derived.Test.YthfjphkhpfmdcaaGreatDoorWN
import Derived.Test.YthfjphkhpfmdcaaGreatDoorWAt
import Derived.Test.YthfjphkhpfmdcaaGreatDoorWRepsOne
import Derived.Test.YthfjphkhpfmdcaaGreatDoorWInv
import Derived.Test.YthfjphkhpfmdcaaGreatDoorWGuard
namespace Go.Proofs.YthfjphkhpfmdcaaGreatDoor.Q
open Go.RowKit Go.Proofs.YthfjphkhpfmdcaaGreatDoorW.PrintWords Go.Proofs.YthfjphkhpfmdcaaGreatDoorW.PrintLast Go.Proofs.YthfjphkhpfmdcaaGreatDoorW.PrintMore
set_option linter.unusedVariables false

/-- The table of math/bits. -/
def TabZ (w : World) : Prop := TabAt 7 Lib.deBruijn64tab w
theorem TabZ.below {w w' : World} (h : TabZ w) (hb : Below w.heap.size w w') : TabZ w' := fun j hj => by
  have h1 := h j hj
  rw [hb.cell (World.block_lt_of_cell? _ _ h1)]
  exact h1
theorem TabZ.alloc {w : World} (h : TabZ w) (o : Obj) : TabZ (w.alloc o) := h.below (below_alloc (Below.refl _ _) o)
theorem TabZ.drewN {w : World} (h : TabZ w) (n : Nat) : TabZ (w.drewN n) := h.below (pw_below_drewN (Below.refl _ _) n)
theorem TabZ.drew {w : World} (h : TabZ w) : TabZ w.drew := h.below (below_drew1 (Below.refl _ _))

/-- The table of internal/strconv. -/
def TabI (w : World) : Prop := Lib.TabIs Tryz.prog w "internal/strconv.uint64pow10" .u64 Lib.pow10Tab
theorem tab_below {n : String} {w w' : World} {cs : Array Value} (h : w.var? Tryz.prog n = some cs) (hb : Below w.heap.size w w') : w'.var? Tryz.prog n = some cs := by
  have h0 := h
  unfold World.var? at h0
  cases hg : Tryz.prog.globalNamed n with
  | none => rw [hg] at h0; cases h0
  | some g =>
    rw [hg] at h0
    have hlt : g < w.heap.size := by
      rcases Nat.lt_or_ge g w.heap.size with h1 | h1
      · exact h1
      · rw [Option.bind_some, Array.getElem?_eq_none h1] at h0
        cases h0
    exact var?_below hb hg hlt h
theorem TabI.below {w w' : World} (h : TabI w) (hb : Below w.heap.size w w') : TabI w' := tab_below h hb
theorem TabI.alloc {w : World} (h : TabI w) (o : Obj) : TabI (w.alloc o) := h.below (below_alloc (Below.refl _ _) o)
theorem TabI.drewN {w : World} (h : TabI w) (n : Nat) : TabI (w.drewN n) := h.below (pw_below_drewN (Below.refl _ _) n)
theorem TabI.drew {w : World} (h : TabI w) : TabI w.drew := h.below (below_drew1 (Below.refl _ _))

/-- The table of internal/strconv, and the two errors of strconv. -/
def TabE (w : World) : Prop := TabI w ∧ (∃ t p, w.var? Tryz.prog "strconv.ErrSyntax" = some #[.iface t p]) ∧ ∃ t p, w.var? Tryz.prog "strconv.ErrRange" = some #[.iface t p]
theorem TabE.below {w w' : World} (h : TabE w) (hb : Below w.heap.size w w') : TabE w' := by
  obtain ⟨h1, ⟨t, p, h2⟩, t', p', h3⟩ := h
  exact ⟨h1.below hb, ⟨t, p, tab_below h2 hb⟩, t', p', tab_below h3 hb⟩
theorem TabE.alloc {w : World} (h : TabE w) (o : Obj) : TabE (w.alloc o) := h.below (below_alloc (Below.refl _ _) o)
theorem TabE.drewN {w : World} (h : TabE w) (n : Nat) : TabE (w.drewN n) := h.below (pw_below_drewN (Below.refl _ _) n)
theorem TabE.drew {w : World} (h : TabE w) : TabE w.drew := h.below (below_drew1 (Below.refl _ _))

theorem laidMet_fnExactParseGraph {W : World} (h : laidMetH Tryz.prog Rows.fnExactParseGraphRow.laid W) : laidMet Tryz.prog Rows.fnExactParseGraphRow.laid W := by
  rw [MakeChecks.laidMetH_plain _ _ _ (by kernel_rfl)] at h
  exact h
set_option maxRecDepth 100000 in
theorem tabI_fnExactParseGraph {W : World} (h0 : laidMetH Tryz.prog Rows.fnExactParseGraphRow.laid W) : TabI W := by
  have h := laidMet_fnExactParseGraph h0
  exact Lib.tabIs_of_head (rest := (Rows.fnExactParseGraphRow.laid).drop 3) (g := 5) (t := 117) (e := 89) (n := 20) (by kernel_rfl) (by kernel_rfl) Tryz.underlying117 Tryz.underlying89 (by kernel_rfl) (by kernel_rfl) h.tail.tail
set_option maxRecDepth 100000 in
theorem tabE_fnExactParseGraph {W : World} (h0 : laidMetH Tryz.prog Rows.fnExactParseGraphRow.laid W) : TabE W := by
  have h := laidMet_fnExactParseGraph h0
  obtain ⟨aS, sS, hvS, -, -, -⟩ := laid_sentinel (r := (Rows.fnExactParseGraphRow.laid).drop 6) (g := 1) (ti := 47) h.tail.tail.tail.tail.tail (by kernel_rfl) (by kernel_rfl) Tryz.underlying47 (fun u hu => typeName_ptr_named (nm := "errors.errorString") (tp := 113) (by kernel_rfl) (by kernel_rfl) (by decide) u hu) Tryz.underlying113 Tryz.underlying115 rfl rfl Tryz.underlying9 (by kernel_rfl) (by kernel_rfl)
  obtain ⟨aR, sR, hvR, -, -, -⟩ := laid_sentinel (r := (Rows.fnExactParseGraphRow.laid).drop 5) (g := 2) (ti := 47) h.tail.tail.tail.tail (by kernel_rfl) (by kernel_rfl) Tryz.underlying47 (fun u hu => typeName_ptr_named (nm := "errors.errorString") (tp := 113) (by kernel_rfl) (by kernel_rfl) (by decide) u hu) Tryz.underlying113 Tryz.underlying115 rfl rfl Tryz.underlying9 (by kernel_rfl) (by kernel_rfl)
  exact ⟨tabI_fnExactParseGraph h0, ⟨_, _, hvS⟩, _, _, hvR⟩
end Go.Proofs.YthfjphkhpfmdcaaGreatDoor.Q

namespace Go.Proofs.YthfjphkhpfmdcaaGreatDoor.Q
open Go.RowKit Go.Proofs.YthfjphkhpfmdcaaGreatDoorW.PrintWords Go.Proofs.YthfjphkhpfmdcaaGreatDoorW.PrintLast Go.Proofs.YthfjphkhpfmdcaaGreatDoorW.PrintMore
attribute [local go_sem] max2_int min2_int max_two min_two max_three min_three max_four min_four   -- for this text's walks alone
set_option linter.unusedVariables false
set_option linter.unusedSimpArgs false



def errW : Option Int → Value
  | none => .nilIface
  | some c => .iface 0 (.int .i64 c)
theorem errW_none : errW none = .nilIface := rfl
theorem errW_some (c : Int) : errW (some c) = .iface 0 (.int .i64 c) := rfl

theorem info3 : (Tryz.prog.info? 3).map (fun i => (i.zero, i.size, i.bytes)) = some (some (.int .i64 0), 1, 8) := by kernel_rfl
theorem info9 : (Tryz.prog.info? 9).map (fun i => (i.zero, i.size, i.bytes)) = some (some (.string ⟨#[]⟩), 1, 16) := by kernel_rfl
-- the values' own types

end Go.Proofs.YthfjphkhpfmdcaaGreatDoor.Q

namespace Go.Proofs.YthfjphkhpfmdcaaGreatDoor.Q
open Go.RowKit Go.Proofs.YthfjphkhpfmdcaaGreatDoorW.PrintWords Go.Proofs.YthfjphkhpfmdcaaGreatDoorW.PrintLast Go.Proofs.YthfjphkhpfmdcaaGreatDoorW.PrintMore
attribute [local go_sem] max2_int min2_int max_two min_two max_three min_three max_four min_four   -- for this text's walks alone
set_option linter.unusedVariables false
set_option linter.unusedSimpArgs false

/-! ### spec_SplitAny: function 9 -/
mutual
def spec_SplitAny.l0 : Nat → ByteArray → ByteArray → List ByteArray → Int → Int → Option (List ByteArray)
 | 0,_,_,_,_,_=>none
 | k + 1,x0,x1,x5,x6,x7=>if x7 < (x0.size : Int) then (spec_SplitAny.l1 k x0 x1 x5 x6 x7 0) else (if 0 ≤ x6 then (if x6 ≤ (x0.size : Int) then (if x5.length < 8796093022208 then (some (x5 ++ [x0.extract (x6 : Int).toNat x0.size])) else (none)) else (none)) else (none))
def spec_SplitAny.l1 : Nat → ByteArray → ByteArray → List ByteArray → Int → Int → Int → Option (List ByteArray)
 | 0,_,_,_,_,_,_=>none
 | k + 1,x0,x1,x5,x6,x7,x8=>if x8 < (x1.size : Int) then (if 0 ≤ x7 then (if x7 < (x0.size : Int) then (if 0 ≤ x8 then (if (bt x0 x7) = (bt x1 x8) then (if 0 ≤ x6 then (if x6 ≤ x7 then (if x7 ≤ (x0.size : Int) then (if x5.length < 8796093022208 then (spec_SplitAny.l0 k x0 x1 (x5 ++ [x0.extract (x6 : Int).toNat (x7 : Int).toNat]) (wrap64 (x7 + 1)) (wrap64 (x7 + 1))) else (none)) else (none)) else (none)) else (none)) else (spec_SplitAny.l1 k x0 x1 x5 x6 x7 (wrap64 (x8 + 1)))) else (none)) else (none)) else (none)) else (spec_SplitAny.l0 k x0 x1 x5 x6 (wrap64 (x7 + 1)))
end
def spec_SplitAny.f (k : Nat) (a0 : ByteArray) (a1 : ByteArray) : Option (List ByteArray):=spec_SplitAny.l0 k a0 a1 (([] : List ByteArray)) 0 0
set_option maxHeartbeats 8000000 in
set_option maxRecDepth 100000 in
theorem spec_SplitAny.calls (k : Nat) (a0 : ByteArray) (a1 : ByteArray) (r : List ByteArray) (w : World) (h : spec_SplitAny.f k a0 a1 = some r) :
  Calls Tryz.prog 9 #[.string a0,.string a1] w fun e w'=>∃ v0_ : Value,e = .returned (v0_) ∧ Kd.R Kd.string 9 w' w.heap.size (fun _=>True) v0_ r ∧ Below w.heap.size w w':=by
 have HB:=Aside0.mk (Below.refl w.heap.size w)
 have H : (spec_SplitAny.l0 k a0 a1 (([] : List ByteArray)) 0 0) = some r:=h
 clear h
 obtain ⟨y101,hy101⟩ : ∃ y_ : List ByteArray,y_ = (([] : List ByteArray)):=⟨_,rfl⟩
 replace H : (spec_SplitAny.l0 k a0 a1 y101 0 0) = some r:=by first | (rw [hy101];with_reducible exact H) | (have H2_:=(Option.bind_some _ _).symm.trans H;rw [hy101];with_reducible exact H2_) | (have H2_:=(Option.bind_some _ _).symm.trans H;with_reducible exact H2_) | with_reducible exact H | (rw [hy101];exact H) | exact H
 have Ny101:=Aside0.mk hy101
 clear hy101
 have H':=Aside0.mk H
 clear H
 go_enter Tryz.func9,Tryz.ntmps9
 go_wp2_with (first | ((with_reducible refine gate_dst (N:=9) rfl ?_);refine Kd.R_lit Kd.string _ 9 ?hg (N:=9) ?hd (xs:=([] : List ByteArray)) (inner:=[]) (ok:=fun _=>True) (okp:=fun _=>True) ?hr ?hp (fun _ hk=>hk) trivial (Below.refl _ _) (Nat.le_refl _) (by simp) ?_;(case hd=>rfl);(case hg=>rfl);(case hr=>first | (go_simp;done) | (go_simp;rfl));(case hp=>exact (Reps.none _ _));intro v102 w3 ho4 hb hg_ hnew_;clear hg_ hnew_;(first | rw [← Ny101.out] at ho4 | (simp only [Int.reduceToNat] at ho4;rw [← Ny101.out] at ho4));have n0_:=Aside0.mk (Kd.R_lower ho4 (below_size (by repeat (first | (with_reducible first | exact HB.out | apply below_alloc | apply pw_below_drewN | apply below_drew1) | exact HB.out))));have n1_:=Aside0.mk (below_step (by repeat (first | (with_reducible first | exact HB.out | apply below_alloc | apply pw_below_drewN | apply below_drew1) | exact HB.out)) hb);clear HB;have HO103:=n0_;have HB:=n1_;clear n0_ n1_;clear hb ho4))
 repeat (go_quiet (first | ((with_reducible refine gate_dst (N:=9) rfl ?_);refine Kd.R_lit Kd.string _ 9 ?hg (N:=9) ?hd (xs:=([] : List ByteArray)) (inner:=[]) (ok:=fun _=>True) (okp:=fun _=>True) ?hr ?hp (fun _ hk=>hk) trivial (Below.refl _ _) (Nat.le_refl _) (by simp) ?_;(case hd=>rfl);(case hg=>rfl);(case hr=>first | (go_simp;done) | (go_simp;rfl));(case hp=>exact (Reps.none _ _));intro v102 w3 ho4 hb hg_ hnew_;clear hg_ hnew_;(first | rw [← Ny101.out] at ho4 | (simp only [Int.reduceToNat] at ho4;rw [← Ny101.out] at ho4));have n0_:=Aside0.mk (Kd.R_lower ho4 (below_size (by repeat (first | (with_reducible first | exact HB.out | apply below_alloc | apply pw_below_drewN | apply below_drew1) | exact HB.out))));have n1_:=Aside0.mk (below_step (by repeat (first | (with_reducible first | exact HB.out | apply below_alloc | apply pw_below_drewN | apply below_drew1) | exact HB.out)) hb);clear HB;have HO103:=n0_;have HB:=n1_;clear n0_ n1_;clear hb ho4));try go_wp2_with (first | ((with_reducible refine gate_dst (N:=9) rfl ?_);refine Kd.R_lit Kd.string _ 9 ?hg (N:=9) ?hd (xs:=([] : List ByteArray)) (inner:=[]) (ok:=fun _=>True) (okp:=fun _=>True) ?hr ?hp (fun _ hk=>hk) trivial (Below.refl _ _) (Nat.le_refl _) (by simp) ?_;(case hd=>rfl);(case hg=>rfl);(case hr=>first | (go_simp;done) | (go_simp;rfl));(case hp=>exact (Reps.none _ _));intro v102 w3 ho4 hb hg_ hnew_;clear hg_ hnew_;(first | rw [← Ny101.out] at ho4 | (simp only [Int.reduceToNat] at ho4;rw [← Ny101.out] at ho4));have n0_:=Aside0.mk (Kd.R_lower ho4 (below_size (by repeat (first | (with_reducible first | exact HB.out | apply below_alloc | apply pw_below_drewN | apply below_drew1) | exact HB.out))));have n1_:=Aside0.mk (below_step (by repeat (first | (with_reducible first | exact HB.out | apply below_alloc | apply pw_below_drewN | apply below_drew1) | exact HB.out)) hb);clear HB;have HO103:=n0_;have HB:=n1_;clear n0_ n1_;clear hb ho4)))
 go_loopg [5,6,7] k (fun kq v5 v6 v7 w'=>∃ (x5_1 : List ByteArray) (x6_1 : Int) (x7_1 : Int),v6 = .int .i64 x6_1 ∧ v7 = .int .i64 x7_1 ∧ Aside0 (spec_SplitAny.l0 kq a0 a1 x5_1 x6_1 x7_1 = some r) ∧ Aside0 (kq ≤ k) ∧ Aside0 (Kd.R Kd.string 9 w' w.heap.size (fun _=>True) v5 x5_1) ∧ Aside0 (Below w.heap.size w w'))
 case atStart=>exact ⟨(y101),(0),(0),(by first | rfl | (simp;done) | (simp [*];done)),(by first | rfl | (simp;done) | (simp [*];done)),H',⟨Nat.le_refl _⟩,⟨by (with_reducible repeat (first | apply Kd.R_alloc | apply Kd.R_drewN | apply Kd.R_drew));exact HO103.out⟩,⟨by repeat (first | (with_reducible first | exact HB.out | apply below_alloc | apply pw_below_drewN | apply below_drew1) | exact HB.out)⟩⟩
 case round =>
  clear H'
  try clear p2
  obtain ⟨x5_1,x6_1,x7_1,rfl,rfl,HA,HK1,HO_5,HB⟩:=hrel
  cases gk with
  | zero=>exact absurd HA.out (by simp [spec_SplitAny.l0])
  | succ k1 =>
   have H:=HA.out
   clear HA
   simp only [spec_SplitAny.l0] at H
   by_cases c5 : x7_1 < (a0.size : Int)
   ·rw [if_pos c5] at H
    have c5b0 : decide (x7_1 < (a0.size : Int)) = true:=decide_eq_true c5
    clear c5
    have H':=Aside0.mk H
    clear H
    go_wp2
    repeat (go_quiet (fail);try go_wp2)
    go_loopg [5,6,8] k1 (fun kq v5 v6 v8 w'=>∃ (x5_2 : List ByteArray) (x6_2 : Int) (x8_2 : Int),v6 = .int .i64 x6_2 ∧ v8 = .int .i64 x8_2 ∧ Aside0 (spec_SplitAny.l1 kq a0 a1 x5_2 x6_2 x7_1 x8_2 = some r) ∧ Aside0 (kq ≤ k1) ∧ Aside0 (Kd.R Kd.string 9 w' w.heap.size (fun _=>True) v5 x5_2) ∧ Aside0 (Below w.heap.size w w'))
    case atStart=>exact ⟨(x5_1),(x6_1),(0),(by first | rfl | (simp;done) | (simp [*];done)),(by first | rfl | (simp;done) | (simp [*];done)),H',⟨Nat.le_refl _⟩,⟨by (with_reducible repeat (first | apply Kd.R_alloc | apply Kd.R_drewN | apply Kd.R_drew));exact HO_5.out⟩,⟨by repeat (first | (with_reducible first | exact HB.out | apply below_alloc | apply pw_below_drewN | apply below_drew1) | exact HB.out)⟩⟩
    case round =>
     clear H'
     try clear p2
     try clear c5
     try clear c5b0
     try clear p2
     obtain ⟨x5_2,x6_2,x8_2,rfl,rfl,HA,HK2,HO_5,HB⟩:=hrel
     cases gk with
     | zero=>exact absurd HA.out (by simp [spec_SplitAny.l1])
     | succ k2 =>
      have H:=HA.out
      clear HA
      simp only [spec_SplitAny.l1] at H
      by_cases c6 : x8_2 < (a1.size : Int)
      ·rw [if_pos c6] at H
       have c6b0 : decide (x8_2 < (a1.size : Int)) = true:=decide_eq_true c6
       clear c6
       by_cases c7 : 0 ≤ x7_1
       ·rw [if_pos c7] at H
        have c7b0 : decide (0 ≤ x7_1) = true:=decide_eq_true c7
        clear c7
        by_cases c8 : x7_1 < (a0.size : Int)
        ·rw [if_pos c8] at H
         have c8b0 : decide (x7_1 < (a0.size : Int)) = true:=decide_eq_true c8
         clear c8
         by_cases c10 : 0 ≤ x8_2
         ·rw [if_pos c10] at H
          have c10b0 : decide (0 ≤ x8_2) = true:=decide_eq_true c10
          clear c10
          by_cases c12 : (bt a0 x7_1) = (bt a1 x8_2)
          ·rw [if_pos c12] at H
           have c12b0 : ((bt a0 x7_1) == (bt a1 x8_2)) = true:=beq_iff_eq.mpr c12
           have c12b1 : ((bt a0 x7_1) != (bt a1 x8_2)) = false:=bne_eq_false_iff_eq.mpr c12
           clear c12
           by_cases c13 : 0 ≤ x6_2
           ·rw [if_pos c13] at H
            have c13b0:=eq_true c13
            have c13b1 : decide (0 ≤ x6_2) = true:=decide_eq_true c13
            clear c13
            by_cases c14 : x6_2 ≤ x7_1
            ·rw [if_pos c14] at H
             have c14b0:=eq_true c14
             have c14b1 : decide (x6_2 ≤ x7_1) = true:=decide_eq_true c14
             clear c14
             by_cases c15 : x7_1 ≤ (a0.size : Int)
             ·rw [if_pos c15] at H
              have c15b0:=eq_true c15
              have c15b1 : decide (x7_1 ≤ (a0.size : Int)) = true:=decide_eq_true c15
              clear c15
              by_cases c16 : x5_2.length < 8796093022208
              ·rw [if_pos c16] at H
               have LMc16:=Aside0.mk c16
               clear c16
               obtain ⟨y107,hy107⟩ : ∃ y_ : List ByteArray,y_ = (x5_2 ++ [a0.extract (x6_2 : Int).toNat (x7_1 : Int).toNat]):=⟨_,rfl⟩
               replace H : (spec_SplitAny.l0 k2 a0 a1 y107 (wrap64 (x7_1 + 1)) (wrap64 (x7_1 + 1))) = some r:=by first | (rw [hy107];with_reducible exact H) | (have H2_:=(Option.bind_some _ _).symm.trans H;rw [hy107];with_reducible exact H2_) | (have H2_:=(Option.bind_some _ _).symm.trans H;with_reducible exact H2_) | with_reducible exact H | (rw [hy107];exact H) | exact H
               have Ny107:=Aside0.mk hy107
               clear hy107
               have H':=Aside0.mk H
               clear H
               have p9 : 0 ≤ (x7_1 : Int):=of_decide_eq_true (by first | (with_reducible assumption) | assumption)
               have q9 : x7_1 < (a0.size : Int):=of_decide_eq_true (by first | (with_reducible assumption) | assumption)
               have hx9:=bt_at a0 x7_1
               replace p9:=eq_true p9
               replace q9:=eq_true q9
               have p11 : 0 ≤ (x8_2 : Int):=of_decide_eq_true (by first | (with_reducible assumption) | assumption)
               have q11 : x8_2 < (a1.size : Int):=of_decide_eq_true (by first | (with_reducible assumption) | assumption)
               have hx11:=bt_at a1 x8_2
               replace p11:=eq_true p11
               replace q11:=eq_true q11
               go_wp2_with (first | ((with_reducible refine gate_builtin (b:=.append) (xs:=#[.tmp 29,.tmp 34]) rfl ?_);at_builtin;refine Kd.R_append Kd.string (w0:=w) w.heap.size rfl (.tmp 29) (.tmp 34) 30 9 (.string ⟨#[]⟩) 16 rfl Tryz.underlying30 info9 rfl (by decide) (by omega) u5 x5_2 (a0.extract (x6_2 : Int).toNat (x7_1 : Int).toNat) [.string (a0.extract (x6_2 : Int).toNat (x7_1 : Int).toNat)] (fun _=>True) (fun _=>False) rfl rfl ?aP (fun _ hk=>hk.elim) ?aF ?aO ?aB ?aS ?aL ?_;(case aP=>exact rfl);(case aB=>exact (by repeat (first | (with_reducible first | exact HB.out | apply below_alloc | apply pw_below_drewN | apply below_drew1) | exact HB.out)));(case aF=>exact (fun _ _=>trivial));(case aO=>exact (by (with_reducible repeat (first | apply Kd.R_alloc | apply Kd.R_drewN | apply Kd.R_drew));exact HO_5.out));(case aS=>exact (below_size (by repeat (first | (with_reducible first | exact HB.out | apply below_alloc | apply pw_below_drewN | apply below_drew1) | exact HB.out))));(case aL=>have:=LMc16.out;omega);intro v108 w17 ho hb hg hat;rw [← Ny107.out] at ho;have n0_:=Aside0.mk (hb);have n1_:=Aside0.mk (ho);clear HB;clear HO_5;have HB:=n0_;have HO109:=n1_;clear n0_ n1_;clear ho hb hg hat))
               repeat (go_quiet (first | ((with_reducible refine gate_builtin (b:=.append) (xs:=#[.tmp 29,.tmp 34]) rfl ?_);at_builtin;refine Kd.R_append Kd.string (w0:=w) w.heap.size rfl (.tmp 29) (.tmp 34) 30 9 (.string ⟨#[]⟩) 16 rfl Tryz.underlying30 info9 rfl (by decide) (by omega) u5 x5_2 (a0.extract (x6_2 : Int).toNat (x7_1 : Int).toNat) [.string (a0.extract (x6_2 : Int).toNat (x7_1 : Int).toNat)] (fun _=>True) (fun _=>False) rfl rfl ?aP (fun _ hk=>hk.elim) ?aF ?aO ?aB ?aS ?aL ?_;(case aP=>exact rfl);(case aB=>exact (by repeat (first | (with_reducible first | exact HB.out | apply below_alloc | apply pw_below_drewN | apply below_drew1) | exact HB.out)));(case aF=>exact (fun _ _=>trivial));(case aO=>exact (by (with_reducible repeat (first | apply Kd.R_alloc | apply Kd.R_drewN | apply Kd.R_drew));exact HO_5.out));(case aS=>exact (below_size (by repeat (first | (with_reducible first | exact HB.out | apply below_alloc | apply pw_below_drewN | apply below_drew1) | exact HB.out))));(case aL=>have:=LMc16.out;omega);intro v108 w17 ho hb hg hat;rw [← Ny107.out] at ho;have n0_:=Aside0.mk (hb);have n1_:=Aside0.mk (ho);clear HB;clear HO_5;have HB:=n0_;have HO109:=n1_;clear n0_ n1_;clear ho hb hg hat));try go_wp2_with (first | ((with_reducible refine gate_builtin (b:=.append) (xs:=#[.tmp 29,.tmp 34]) rfl ?_);at_builtin;refine Kd.R_append Kd.string (w0:=w) w.heap.size rfl (.tmp 29) (.tmp 34) 30 9 (.string ⟨#[]⟩) 16 rfl Tryz.underlying30 info9 rfl (by decide) (by omega) u5 x5_2 (a0.extract (x6_2 : Int).toNat (x7_1 : Int).toNat) [.string (a0.extract (x6_2 : Int).toNat (x7_1 : Int).toNat)] (fun _=>True) (fun _=>False) rfl rfl ?aP (fun _ hk=>hk.elim) ?aF ?aO ?aB ?aS ?aL ?_;(case aP=>exact rfl);(case aB=>exact (by repeat (first | (with_reducible first | exact HB.out | apply below_alloc | apply pw_below_drewN | apply below_drew1) | exact HB.out)));(case aF=>exact (fun _ _=>trivial));(case aO=>exact (by (with_reducible repeat (first | apply Kd.R_alloc | apply Kd.R_drewN | apply Kd.R_drew));exact HO_5.out));(case aS=>exact (below_size (by repeat (first | (with_reducible first | exact HB.out | apply below_alloc | apply pw_below_drewN | apply below_drew1) | exact HB.out))));(case aL=>have:=LMc16.out;omega);intro v108 w17 ho hb hg hat;rw [← Ny107.out] at ho;have n0_:=Aside0.mk (hb);have n1_:=Aside0.mk (ho);clear HB;clear HO_5;have HB:=n0_;have HO109:=n1_;clear n0_ n1_;clear ho hb hg hat)))
               go_roundg k2
               case measure=>have:=HK1.out;have:=HK2.out;omega
               case rel=>exact ⟨(y107),(wrap64 (x7_1 + 1)),(wrap64 (x7_1 + 1)),(by first | rfl | (simp;done) | (simp [*];done)),(by first | rfl | (simp;done) | (simp [*];done)),H',⟨by have:=HK1.out;have:=HK2.out;omega⟩,⟨by (with_reducible repeat (first | apply Kd.R_alloc | apply Kd.R_drewN | apply Kd.R_drew));exact HO109.out⟩,⟨by repeat (first | (with_reducible first | exact HB.out | apply below_alloc | apply pw_below_drewN | apply below_drew1) | exact HB.out)⟩⟩
              ·rw [if_neg c16] at H
               exact absurd H (by simp)
             ·rw [if_neg c15] at H
              exact absurd H (by simp)
            ·rw [if_neg c14] at H
             exact absurd H (by simp)
           ·rw [if_neg c13] at H
            exact absurd H (by simp)
          ·rw [if_neg c12] at H
           have c12b0 : ((bt a0 x7_1) == (bt a1 x8_2)) = false:=beq_eq_false_iff_ne.mpr c12
           have c12b1 : ((bt a0 x7_1) != (bt a1 x8_2)) = true:=bne_iff_ne.mpr c12
           have H':=Aside0.mk H
           clear H
           have p9 : 0 ≤ (x7_1 : Int):=of_decide_eq_true (by first | (with_reducible assumption) | assumption)
           have q9 : x7_1 < (a0.size : Int):=of_decide_eq_true (by first | (with_reducible assumption) | assumption)
           have hx9:=bt_at a0 x7_1
           replace p9:=eq_true p9
           replace q9:=eq_true q9
           have p11 : 0 ≤ (x8_2 : Int):=of_decide_eq_true (by first | (with_reducible assumption) | assumption)
           have q11 : x8_2 < (a1.size : Int):=of_decide_eq_true (by first | (with_reducible assumption) | assumption)
           have hx11:=bt_at a1 x8_2
           replace p11:=eq_true p11
           replace q11:=eq_true q11
           go_wp2
           repeat (go_quiet (fail);try go_wp2)
           go_roundg k2
           case measure=>have:=HK1.out;have:=HK2.out;omega
           case rel=>exact ⟨(x5_2),(x6_2),(wrap64 (x8_2 + 1)),(by first | rfl | (simp;done) | (simp [*];done)),(by first | rfl | (simp;done) | (simp [*];done)),H',⟨by have:=HK1.out;have:=HK2.out;omega⟩,⟨by (with_reducible repeat (first | apply Kd.R_alloc | apply Kd.R_drewN | apply Kd.R_drew));exact HO_5.out⟩,⟨by repeat (first | (with_reducible first | exact HB.out | apply below_alloc | apply pw_below_drewN | apply below_drew1) | exact HB.out)⟩⟩
         ·rw [if_neg c10] at H
          exact absurd H (by simp)
        ·rw [if_neg c8] at H
         exact absurd H (by simp)
       ·rw [if_neg c7] at H
        exact absurd H (by simp)
      ·rw [if_neg c6] at H
       have c6b0 : decide (x8_2 < (a1.size : Int)) = false:=decide_eq_false c6
       clear c6
       have H':=Aside0.mk H
       clear H
       go_wp2
       repeat (go_quiet (fail);try go_wp2)
       go_roundg k2
       case measure=>have:=HK1.out;have:=HK2.out;omega
       case rel=>exact ⟨(x5_2),(x6_2),(wrap64 (x7_1 + 1)),(by first | rfl | (simp;done) | (simp [*];done)),(by first | rfl | (simp;done) | (simp [*];done)),H',⟨by have:=HK1.out;have:=HK2.out;omega⟩,⟨by (with_reducible repeat (first | apply Kd.R_alloc | apply Kd.R_drewN | apply Kd.R_drew));exact HO_5.out⟩,⟨by repeat (first | (with_reducible first | exact HB.out | apply below_alloc | apply pw_below_drewN | apply below_drew1) | exact HB.out)⟩⟩
   ·rw [if_neg c5] at H
    have c5b0 : decide (x7_1 < (a0.size : Int)) = false:=decide_eq_false c5
    clear c5
    by_cases c18 : 0 ≤ x6_1
    ·rw [if_pos c18] at H
     have c18b0:=eq_true c18
     have c18b1 : decide (0 ≤ x6_1) = true:=decide_eq_true c18
     clear c18
     by_cases c19 : x6_1 ≤ (a0.size : Int)
     ·rw [if_pos c19] at H
      have c19b0:=eq_true c19
      have c19b1 : decide (x6_1 ≤ (a0.size : Int)) = true:=decide_eq_true c19
      clear c19
      by_cases c20 : x5_1.length < 8796093022208
      ·rw [if_pos c20] at H
       have LMc20:=Aside0.mk c20
       clear c20
       obtain ⟨y104,hy104⟩ : ∃ y_ : List ByteArray,y_ = (x5_1 ++ [a0.extract (x6_1 : Int).toNat a0.size]):=⟨_,rfl⟩
       replace H : (some y104) = some r:=by first | (rw [hy104];with_reducible exact H) | (have H2_:=(Option.bind_some _ _).symm.trans H;rw [hy104];with_reducible exact H2_) | (have H2_:=(Option.bind_some _ _).symm.trans H;with_reducible exact H2_) | with_reducible exact H | (rw [hy104];exact H) | exact H
       have Ny104:=Aside0.mk hy104
       clear hy104
       obtain rfl:=Option.some.inj H
       go_wp2_with (first | ((with_reducible refine gate_builtin (b:=.append) (xs:=#[.tmp 38,.tmp 42]) rfl ?_);at_builtin;refine Kd.R_append Kd.string (w0:=w) w.heap.size rfl (.tmp 38) (.tmp 42) 30 9 (.string ⟨#[]⟩) 16 rfl Tryz.underlying30 info9 rfl (by decide) (by omega) u5 x5_1 (a0.extract (x6_1 : Int).toNat a0.size) [.string (a0.extract (x6_1 : Int).toNat a0.size)] (fun _=>True) (fun _=>False) rfl rfl ?aP (fun _ hk=>hk.elim) ?aF ?aO ?aB ?aS ?aL ?_;(case aP=>exact rfl);(case aB=>exact (by repeat (first | (with_reducible first | exact HB.out | apply below_alloc | apply pw_below_drewN | apply below_drew1) | exact HB.out)));(case aF=>exact (fun _ _=>trivial));(case aO=>exact (by (with_reducible repeat (first | apply Kd.R_alloc | apply Kd.R_drewN | apply Kd.R_drew));exact HO_5.out));(case aS=>exact (below_size (by repeat (first | (with_reducible first | exact HB.out | apply below_alloc | apply pw_below_drewN | apply below_drew1) | exact HB.out))));(case aL=>have:=LMc20.out;omega);intro v105 w21 ho hb hg hat;rw [← Ny104.out] at ho;have n0_:=Aside0.mk (hb);have n1_:=Aside0.mk (ho);clear HB;clear HO_5;have HB:=n0_;have HO106:=n1_;clear n0_ n1_;clear ho hb hg hat))
       repeat (go_quiet (first | ((with_reducible refine gate_builtin (b:=.append) (xs:=#[.tmp 38,.tmp 42]) rfl ?_);at_builtin;refine Kd.R_append Kd.string (w0:=w) w.heap.size rfl (.tmp 38) (.tmp 42) 30 9 (.string ⟨#[]⟩) 16 rfl Tryz.underlying30 info9 rfl (by decide) (by omega) u5 x5_1 (a0.extract (x6_1 : Int).toNat a0.size) [.string (a0.extract (x6_1 : Int).toNat a0.size)] (fun _=>True) (fun _=>False) rfl rfl ?aP (fun _ hk=>hk.elim) ?aF ?aO ?aB ?aS ?aL ?_;(case aP=>exact rfl);(case aB=>exact (by repeat (first | (with_reducible first | exact HB.out | apply below_alloc | apply pw_below_drewN | apply below_drew1) | exact HB.out)));(case aF=>exact (fun _ _=>trivial));(case aO=>exact (by (with_reducible repeat (first | apply Kd.R_alloc | apply Kd.R_drewN | apply Kd.R_drew));exact HO_5.out));(case aS=>exact (below_size (by repeat (first | (with_reducible first | exact HB.out | apply below_alloc | apply pw_below_drewN | apply below_drew1) | exact HB.out))));(case aL=>have:=LMc20.out;omega);intro v105 w21 ho hb hg hat;rw [← Ny104.out] at ho;have n0_:=Aside0.mk (hb);have n1_:=Aside0.mk (ho);clear HB;clear HO_5;have HB:=n0_;have HO106:=n1_;clear n0_ n1_;clear ho hb hg hat));try go_wp2_with (first | ((with_reducible refine gate_builtin (b:=.append) (xs:=#[.tmp 38,.tmp 42]) rfl ?_);at_builtin;refine Kd.R_append Kd.string (w0:=w) w.heap.size rfl (.tmp 38) (.tmp 42) 30 9 (.string ⟨#[]⟩) 16 rfl Tryz.underlying30 info9 rfl (by decide) (by omega) u5 x5_1 (a0.extract (x6_1 : Int).toNat a0.size) [.string (a0.extract (x6_1 : Int).toNat a0.size)] (fun _=>True) (fun _=>False) rfl rfl ?aP (fun _ hk=>hk.elim) ?aF ?aO ?aB ?aS ?aL ?_;(case aP=>exact rfl);(case aB=>exact (by repeat (first | (with_reducible first | exact HB.out | apply below_alloc | apply pw_below_drewN | apply below_drew1) | exact HB.out)));(case aF=>exact (fun _ _=>trivial));(case aO=>exact (by (with_reducible repeat (first | apply Kd.R_alloc | apply Kd.R_drewN | apply Kd.R_drew));exact HO_5.out));(case aS=>exact (below_size (by repeat (first | (with_reducible first | exact HB.out | apply below_alloc | apply pw_below_drewN | apply below_drew1) | exact HB.out))));(case aL=>have:=LMc20.out;omega);intro v105 w21 ho hb hg hat;rw [← Ny104.out] at ho;have n0_:=Aside0.mk (hb);have n1_:=Aside0.mk (ho);clear HB;clear HO_5;have HB:=n0_;have HO106:=n1_;clear n0_ n1_;clear ho hb hg hat)))
       go_ret
       exact ⟨_,by first | rfl | (simp [errW_none,errW_some] <;> rfl) | (simp [*,errW_none,errW_some] <;> rfl),by (with_reducible repeat (first | apply Kd.R_alloc | apply Kd.R_drewN | apply Kd.R_drew));exact HO106.out,by repeat (first | (with_reducible first | exact HB.out | apply below_alloc | apply pw_below_drewN | apply below_drew1) | exact HB.out)⟩
      ·rw [if_neg c20] at H
       exact absurd H (by simp)
     ·rw [if_neg c19] at H
      exact absurd H (by simp)
    ·rw [if_neg c18] at H
     exact absurd H (by simp)

end Go.Proofs.YthfjphkhpfmdcaaGreatDoor.Q
