/- Made by a program of this session (wip/tools/mkgraphlaw.py): the walk of the law FnExactWithoutVertex, out of what the two functions give; no condition beside that. -/
import Derived.Test.YtfnlbakeefcmeaaXLaw
import Derived.Test.YtfnlbakeefcmeaaCopies
import Derived.Test.YtfnlbakeefcmeaaMarks
import Derived.Test.YtfnlbakeefcmeaaXWithout
import Derived.Test.YtfnlbakeefcmeaaQx0
import Derived.Test.YtfnlbakeefcmeaaQx1
import Derived.Test.YtfnlbakeefcmeaaQx5
import Derived.Test.YtfnlbakeefcmeaaQx6
import Derived.Test.YtfnlbakeefcmeaaQx8
import Derived.Test.YtfnlbakeefcmeaaQx11
import Derived.Test.YtfnlbakeefcmeaaQx12
namespace Go.Proofs.Ytfnlbakeefcmeaa.Q
open Go.RowKit Go.Proofs.YtfnlbakeefcmeaaW.PrintWords Go.Proofs.YtfnlbakeefcmeaaW.PrintLast Go.Proofs.YtfnlbakeefcmeaaW.PrintMore Go.Proofs.Ytfnlbakeefcmeaa.Pure
attribute [local go_sem] max2_int min2_int max_two min_two max_three min_three max_four min_four
set_option linter.unusedVariables false
set_option linter.unusedSimpArgs false

set_option maxHeartbeats 8000000 in
set_option maxRecDepth 100000 in
theorem laws_FnExactWithoutVertex.small (s : Int) (A : Option Addr) (c : Nat) (l : List Int) (x1 : Int) (k : Nat) (left tr kx : Int) (lx L : List Int) (m rs : Int) (r rm : List Int) (rb : Bool) (w : World) (hr : Kd.C (Kd.int .i64) w A l.length l) (hc : l.length ≤ c)
    (hsz : laws_szGraph.f s l 1000000 = some left) (hleft : ¬ left < 0) (hL : laws_toIntS_all.f k l false = some L) (hT : laws_toGraph.f k s l true = some (s, l)) (htake : L.take l.length = l) (hroom : laws_roomBehind.f (l.length : Int) = some tr)
    (hsum : wrap64 ((l.length : Int) + tr) = (L.length : Int)) (heq : laws_eqIntS.f k L L = some true) (hspec : spec_WithoutVertex.f k s l x1 = some (rs, r, rb)) (himpl : impl_WithoutVertex.f k s l x1 = some (rs, r, rb))
    (hmx : laws_markGraph.f k s l 101 = some (kx, lx)) (hkx : ¬ kx < 0) (heqr : laws_eqGraph.f k rs r rs r = some true) (hmr : laws_markGraph.f k rs r 101 = some (m, rm)) (hm0 : ¬ m < 0) (hhr : laws_heldGraph.f k rs rm 101 = some m) :
    Calls Try.prog 3 #[.agg #[.int .i64 s, .slice A l.length c], .int .i64 x1] w fun e w' => e = .returned (.bool true) ∧ Below w.heap.size w w' := by
  have hu1 := Try.underlying24
  have hu2 := Try.underlying26
  have HR := Aside0.mk hr
  have HC := Aside0.mk hc
  have HSZ := Aside0.mk hsz
  have HL := Aside0.mk hL
  have HT := Aside0.mk hT
  have HTAKE := Aside0.mk htake
  have HROOM := Aside0.mk hroom
  have HSUM := Aside0.mk hsum
  have HEQ := Aside0.mk heq
  have HSPEC := Aside0.mk hspec
  have HIMPL := Aside0.mk himpl
  have HMX := Aside0.mk hmx
  have HEQR := Aside0.mk heqr
  have HMR := Aside0.mk hmr
  have HHR := Aside0.mk hhr
  have hl0 : decide (left < 0) = false := decide_eq_false hleft
  have hk0 : decide (kx < 0) = false := decide_eq_false hkx
  have hq0 : decide (m < 0) = false := decide_eq_false hm0
  have hqq : (m != m) = false := by simp
  have hbb : (rb != rb) = false := by simp
  clear hr hc hsz hleft hL hT htake hroom hsum heq hspec himpl hmx hkx heqr hmr hm0 hhr
  go_enter Try.func3, Try.ntmps3
  go_wp2_with fail
  (with_reducible refine (laws_szGraph.calls s A c l 1000000 left _ (Kd.C_alloc HR.out _) HC.out HSZ.out).mono ?_)
  rintro e w1 ⟨rfl, hb⟩
  have HB := Aside0.mk (below_step (below_alloc (Below.refl _ _) _) hb)
  have BKa := Aside0.mk (show w1.heap[w.heap.size]? = some (.cells #[.int .i64 s, .slice A l.length c] 24 (0, 0)) from blk_below (g := w.heap.size) (o := .cells #[.int .i64 s, .slice A l.length c] 24 (0, 0)) (heap_alloc_new _ _) hb)
  clear hb
  have hA0 : w1.cell? ⟨w.heap.size, 0, none⟩ = some (.int .i64 s) := (blk_cell BKa.out 0).trans rfl
  have hA1 : w1.cell? ⟨w.heap.size, 1, none⟩ = some (.slice A l.length c) := (blk_cell BKa.out 1).trans rfl
  go_wp2_with fail
  (with_reducible refine (laws_toGraph_all.calls k s A c l false L _ (Kd.C_below HR.out HB.out) HC.out HL.out).mono ?_)
  rintro e w2 ⟨A2, c2, rfl, ho, hle, hb⟩
  have C2 := Aside0.mk (cut_row (Kd.R_reads' ho).2.2 HTAKE.out)
  have E2 := Aside0.mk (Nat.le_trans hle (Kd.R_reads' ho).2.1)
  clear ho hle
  have n0_ := Aside0.mk (below_step HB.out hb)
  have n1_ := Aside0.mk (blk_below (g := w.heap.size) (o := .cells #[.int .i64 s, .slice A l.length c] 24 (0, 0)) BKa.out hb)
  clear hA0 hA1
  clear HB BKa hb
  have HB := n0_
  have BKa := n1_
  clear n0_ n1_
  have hA0 : w2.cell? ⟨w.heap.size, 0, none⟩ = some (.int .i64 s) := (blk_cell BKa.out 0).trans rfl
  have hA1 : w2.cell? ⟨w.heap.size, 1, none⟩ = some (.slice A l.length c) := (blk_cell BKa.out 1).trans rfl
  go_wp2_with fail
  (with_reducible refine (spec_WithoutVertex.calls k s A2 c2 l x1 rs r rb _ C2.out E2.out HSPEC.out).mono ?_)
  rintro e w3 ⟨v3, rfl, ho, hb⟩
  obtain ⟨As, cs, eo⟩ := Kd.R_slice ho
  subst eo
  clear C2 E2
  have HS := Aside0.mk (Kd.R_lower (Kd.R_mono (ok' := fun j => j < w3.heap.size) (Kd.R_bound ho) (fun j hj => hj.2.2.1)) (below_size HB.out))
  clear ho
  have n0_ := Aside0.mk (below_step HB.out hb)
  have n1_ := Aside0.mk (blk_below (g := w.heap.size) (o := .cells #[.int .i64 s, .slice A l.length c] 24 (0, 0)) BKa.out hb)
  clear hA0 hA1
  clear HB BKa hb
  have HB := n0_
  have BKa := n1_
  clear n0_ n1_
  have hlt3 := Aside0.mk (show w.heap.size < w3.heap.size from blk_lt BKa.out)
  have hAa0 : ∀ o : Obj, (w3.alloc o).cell? ⟨w.heap.size, 0, none⟩ = some (.int .i64 s) := fun o => (blk_cell (blk_alloc BKa.out o) 0).trans rfl
  have hAa1 : ∀ o : Obj, (w3.alloc o).cell? ⟨w.heap.size, 1, none⟩ = some (.slice A l.length c) := fun o => (blk_cell (blk_alloc BKa.out o) 1).trans rfl
  have hA0 : w3.cell? ⟨w.heap.size, 0, none⟩ = some (.int .i64 s) := (blk_cell BKa.out 0).trans rfl
  have hA1 : w3.cell? ⟨w.heap.size, 1, none⟩ = some (.slice A l.length c) := (blk_cell BKa.out 1).trans rfl
  go_wp2_with fail
  (with_reducible refine (laws_toGraph_all.calls k s A c l false L _ (Kd.C_below HR.out (below_alloc HB.out _)) HC.out HL.out).mono ?_)
  rintro e w4 ⟨A4, c4, rfl, ho, hle, hb⟩
  have HX := Aside0.mk (Kd.R_lower (Kd.R_mono (ok' := fun j => w3.heap.size < j ∧ j < w4.heap.size) (Kd.R_bound ho) (fun j hj => ⟨(by have h_ := hj.2.1; simp at h_; omega), hj.2.2.1⟩)) (below_size (below_alloc HB.out _)))
  have F4 := Aside0.mk hle
  clear ho hle
  have BKs := Aside0.mk (show w4.heap[w3.heap.size]? = some (.cells #[.int .i64 rs, .slice As r.length cs] 26 (0, 0)) from blk_below (g := w3.heap.size) (o := .cells #[.int .i64 rs, .slice As r.length cs] 26 (0, 0)) (heap_alloc_new _ _) hb)
  have n0_ := Aside0.mk (below_step (below_alloc HB.out _) hb)
  have n1_ := Aside0.mk (blk_below (g := w.heap.size) (o := .cells #[.int .i64 s, .slice A l.length c] 24 (0, 0)) (blk_alloc BKa.out _) hb)
  have n2_ := Aside0.mk (Kd.R_below (Kd.R_alloc HS.out _) hb)
  clear hAa0 hAa1 hA0 hA1
  clear HB BKa HS hb
  have HB := n0_
  have BKa := n1_
  have HS := n2_
  clear n0_ n1_ n2_
  have hle34 := Aside0.mk (show w3.heap.size < w4.heap.size from blk_lt BKs.out)
  have hAa0 : ∀ o : Obj, (w4.alloc o).cell? ⟨w.heap.size, 0, none⟩ = some (.int .i64 s) := fun o => (blk_cell (blk_alloc BKa.out o) 0).trans rfl
  have hAa1 : ∀ o : Obj, (w4.alloc o).cell? ⟨w.heap.size, 1, none⟩ = some (.slice A l.length c) := fun o => (blk_cell (blk_alloc BKa.out o) 1).trans rfl
  have hA0 : w4.cell? ⟨w.heap.size, 0, none⟩ = some (.int .i64 s) := (blk_cell BKa.out 0).trans rfl
  have hA1 : w4.cell? ⟨w.heap.size, 1, none⟩ = some (.slice A l.length c) := (blk_cell BKa.out 1).trans rfl
  have hSa0 : ∀ o : Obj, (w4.alloc o).cell? ⟨w3.heap.size, 0, none⟩ = some (.int .i64 rs) := fun o => (blk_cell (blk_alloc BKs.out o) 0).trans rfl
  have hSa1 : ∀ o : Obj, (w4.alloc o).cell? ⟨w3.heap.size, 1, none⟩ = some (.slice As r.length cs) := fun o => (blk_cell (blk_alloc BKs.out o) 1).trans rfl
  have hS0 : w4.cell? ⟨w3.heap.size, 0, none⟩ = some (.int .i64 rs) := (blk_cell BKs.out 0).trans rfl
  have hS1 : w4.cell? ⟨w3.heap.size, 1, none⟩ = some (.slice As r.length cs) := (blk_cell BKs.out 1).trans rfl
  go_wp2_with fail
  (with_reducible refine (impl_WithoutVertex.calls k s A4 c4 l x1 rs r rb _ (cut_row (Kd.R_reads' (Kd.R_alloc HX.out _)).2.2 HTAKE.out) (Nat.le_trans F4.out (Kd.R_reads' HX.out).2.1) HIMPL.out).mono ?_)
  rintro e w5 ⟨v5, rfl, ho, hb⟩
  obtain ⟨Ag, cg, eo⟩ := Kd.R_slice ho
  subst eo
  have BKx := Aside0.mk (show w5.heap[w4.heap.size]? = some (.cells #[.int .i64 s, .slice A4 l.length c4] 26 (0, 0)) from blk_below (g := w4.heap.size) (o := .cells #[.int .i64 s, .slice A4 l.length c4] 26 (0, 0)) (heap_alloc_new _ _) hb)
  have HG := Aside0.mk (Kd.R_lower (Kd.R_mono (ok' := fun j => w4.heap.size < j ∧ j < w5.heap.size) (Kd.R_bound ho) (fun j hj => ⟨(by have h_ := hj.2.1; simp at h_; omega), hj.2.2.1⟩)) (below_size (below_alloc HB.out _)))
  clear ho
  have n0_ := Aside0.mk (below_step (below_alloc HB.out _) hb)
  have n1_ := Aside0.mk (blk_below (g := w.heap.size) (o := .cells #[.int .i64 s, .slice A l.length c] 24 (0, 0)) (blk_alloc BKa.out _) hb)
  have n2_ := Aside0.mk (Kd.R_below (Kd.R_alloc HS.out _) hb)
  have n3_ := Aside0.mk (Kd.R_below (Kd.R_alloc HX.out _) hb)
  have n4_ := Aside0.mk (blk_below (g := w3.heap.size) (o := .cells #[.int .i64 rs, .slice As r.length cs] 26 (0, 0)) (blk_alloc BKs.out _) hb)
  clear hAa0 hAa1 hA0 hA1 hSa0 hSa1 hS0 hS1
  clear HB BKa HS HX BKs hb
  have HB := n0_
  have BKa := n1_
  have HS := n2_
  have HX := n3_
  have BKs := n4_
  clear n0_ n1_ n2_ n3_ n4_
  have hlt5 := Aside0.mk (show w4.heap.size < w5.heap.size from blk_lt BKx.out)
  have hAa0 : ∀ o : Obj, (w5.alloc o).cell? ⟨w.heap.size, 0, none⟩ = some (.int .i64 s) := fun o => (blk_cell (blk_alloc BKa.out o) 0).trans rfl
  have hAa1 : ∀ o : Obj, (w5.alloc o).cell? ⟨w.heap.size, 1, none⟩ = some (.slice A l.length c) := fun o => (blk_cell (blk_alloc BKa.out o) 1).trans rfl
  have hA0 : w5.cell? ⟨w.heap.size, 0, none⟩ = some (.int .i64 s) := (blk_cell BKa.out 0).trans rfl
  have hA1 : w5.cell? ⟨w.heap.size, 1, none⟩ = some (.slice A l.length c) := (blk_cell BKa.out 1).trans rfl
  have hSa0 : ∀ o : Obj, (w5.alloc o).cell? ⟨w3.heap.size, 0, none⟩ = some (.int .i64 rs) := fun o => (blk_cell (blk_alloc BKs.out o) 0).trans rfl
  have hSa1 : ∀ o : Obj, (w5.alloc o).cell? ⟨w3.heap.size, 1, none⟩ = some (.slice As r.length cs) := fun o => (blk_cell (blk_alloc BKs.out o) 1).trans rfl
  have hS0 : w5.cell? ⟨w3.heap.size, 0, none⟩ = some (.int .i64 rs) := (blk_cell BKs.out 0).trans rfl
  have hS1 : w5.cell? ⟨w3.heap.size, 1, none⟩ = some (.slice As r.length cs) := (blk_cell BKs.out 1).trans rfl
  have hXa0 : ∀ o : Obj, (w5.alloc o).cell? ⟨w4.heap.size, 0, none⟩ = some (.int .i64 s) := fun o => (blk_cell (blk_alloc BKx.out o) 0).trans rfl
  have hXa1 : ∀ o : Obj, (w5.alloc o).cell? ⟨w4.heap.size, 1, none⟩ = some (.slice A4 l.length c4) := fun o => (blk_cell (blk_alloc BKx.out o) 1).trans rfl
  have hX0 : w5.cell? ⟨w4.heap.size, 0, none⟩ = some (.int .i64 s) := (blk_cell BKx.out 0).trans rfl
  have hX1 : w5.cell? ⟨w4.heap.size, 1, none⟩ = some (.slice A4 l.length c4) := (blk_cell BKx.out 1).trans rfl
  go_wp2_with fail
  (with_reducible refine (laws_eqGraph.calls k rs Ag cg r rs As cs r true _ (Kd.R_reads' (Kd.R_alloc HG.out _)).2.2 (Kd.R_reads' HG.out).2.1 (Kd.R_reads' (Kd.R_alloc HS.out _)).2.2 (Kd.R_reads' HS.out).2.1 HEQR.out).mono ?_)
  rintro e w5b ⟨rfl, hb⟩
  have BKg := Aside0.mk (show w5b.heap[w5.heap.size]? = some (.cells #[.int .i64 rs, .slice Ag r.length cg] 26 (0, 0)) from blk_below (g := w5.heap.size) (o := .cells #[.int .i64 rs, .slice Ag r.length cg] 26 (0, 0)) (heap_alloc_new _ _) hb)
  have n0_ := Aside0.mk (below_step (below_alloc HB.out _) hb)
  have n1_ := Aside0.mk (blk_below (g := w.heap.size) (o := .cells #[.int .i64 s, .slice A l.length c] 24 (0, 0)) (blk_alloc BKa.out _) hb)
  have n2_ := Aside0.mk (Kd.R_below (Kd.R_alloc HS.out _) hb)
  have n3_ := Aside0.mk (Kd.R_below (Kd.R_alloc HX.out _) hb)
  have n4_ := Aside0.mk (blk_below (g := w3.heap.size) (o := .cells #[.int .i64 rs, .slice As r.length cs] 26 (0, 0)) (blk_alloc BKs.out _) hb)
  have n5_ := Aside0.mk (blk_below (g := w4.heap.size) (o := .cells #[.int .i64 s, .slice A4 l.length c4] 26 (0, 0)) (blk_alloc BKx.out _) hb)
  have n6_ := Aside0.mk (Kd.R_below (Kd.R_alloc HG.out _) hb)
  clear hAa0 hAa1 hA0 hA1 hSa0 hSa1 hS0 hS1 hXa0 hXa1 hX0 hX1
  clear HB BKa HS HX BKs BKx HG hb
  have HB := n0_
  have BKa := n1_
  have HS := n2_
  have HX := n3_
  have BKs := n4_
  have BKx := n5_
  have HG := n6_
  clear n0_ n1_ n2_ n3_ n4_ n5_ n6_
  have hA0 : w5b.cell? ⟨w.heap.size, 0, none⟩ = some (.int .i64 s) := (blk_cell BKa.out 0).trans rfl
  have hA1 : w5b.cell? ⟨w.heap.size, 1, none⟩ = some (.slice A l.length c) := (blk_cell BKa.out 1).trans rfl
  have hS0 : w5b.cell? ⟨w3.heap.size, 0, none⟩ = some (.int .i64 rs) := (blk_cell BKs.out 0).trans rfl
  have hS1 : w5b.cell? ⟨w3.heap.size, 1, none⟩ = some (.slice As r.length cs) := (blk_cell BKs.out 1).trans rfl
  have hX0 : w5b.cell? ⟨w4.heap.size, 0, none⟩ = some (.int .i64 s) := (blk_cell BKx.out 0).trans rfl
  have hX1 : w5b.cell? ⟨w4.heap.size, 1, none⟩ = some (.slice A4 l.length c4) := (blk_cell BKx.out 1).trans rfl
  have hG0 : w5b.cell? ⟨w5.heap.size, 0, none⟩ = some (.int .i64 rs) := (blk_cell BKg.out 0).trans rfl
  have hG1 : w5b.cell? ⟨w5.heap.size, 1, none⟩ = some (.slice Ag r.length cg) := (blk_cell BKg.out 1).trans rfl
  go_wp2_with fail
  have n0_ := Aside0.mk (below_drew1 HB.out)
  have n1_ := Aside0.mk (blk_drew BKa.out)
  have n2_ := Aside0.mk (Kd.R_drew HS.out)
  have n3_ := Aside0.mk (Kd.R_drew HX.out)
  have n4_ := Aside0.mk (blk_drew BKs.out)
  have n5_ := Aside0.mk (blk_drew BKx.out)
  have n6_ := Aside0.mk (Kd.R_drew HG.out)
  have n7_ := Aside0.mk (blk_drew BKg.out)
  clear hA0 hA1 hS0 hS1 hX0 hX1 hG0 hG1
  clear HB BKa HS HX BKs BKx HG BKg
  have HB := n0_
  have BKa := n1_
  have HS := n2_
  have HX := n3_
  have BKs := n4_
  have BKx := n5_
  have HG := n6_
  have BKg := n7_
  clear n0_ n1_ n2_ n3_ n4_ n5_ n6_ n7_
  refine start_ (n := 5) (S := fun w' => w'.cell? ⟨w4.heap.size, 0, none⟩ = some (.int .i64 s) ∧ w'.cell? ⟨w4.heap.size, 1, none⟩ = some (.slice A4 l.length c4) ∧ w'.cell? ⟨w.heap.size, 0, none⟩ = some (.int .i64 s) ∧ w'.cell? ⟨w.heap.size, 1, none⟩ = some (.slice A l.length c)) (ds := []) #[false, false, false, false, false] (by kernel_rfl) rfl rfl ⟨(blk_cell BKx.out 0).trans rfl, (blk_cell BKx.out 1).trans rfl, (blk_cell BKa.out 0).trans rfl, (blk_cell BKa.out 1).trans rfl⟩ (fun hHeld => ?_)
  generalize w5b.drew = w6 at HB BKa HS HX BKs BKx HG BKg hHeld ⊢
  refine take_ (i := 0) (N := some 45) (v := ?_) (a' := ?_) #[true, false, false, false, false] rfl rfl (by kernel_rfl) (fun _ _ _ h => h) (Or.inl ⟨by rfl, ?_⟩) hHeld ?_ ?_
  rotate_left
  · rintro w' ⟨s0, s1, s2, s3⟩
    go_simp
    with_reducible rfl
  rotate_left
  · simp only [Act.put, List.setIfInBounds_toArray, List.set_cons_zero, List.set_cons_succ, i64_w, i32_w]
    rfl
  refine take_ (i := 1) (N := some 46) (v := ?_) (a' := ?_) #[true, true, false, false, false] rfl rfl (by kernel_rfl) (fun _ _ _ h => h) (Or.inl ⟨by rfl, ?_⟩) hHeld ?_ ?_
  rotate_left
  · rintro w' ⟨s0, s1, s2, s3⟩
    go_simp
    with_reducible rfl
  rotate_left
  · simp only [Act.put, List.setIfInBounds_toArray, List.set_cons_zero, List.set_cons_succ, i64_w, i32_w]
    rfl
  refine one_ (i := 2) (N := some 47) #[true, true, true, false, false] rfl rfl (by kernel_rfl) (by decide) (fun K hK => ?_)
  refine goes_ Try.func8 (by kernel_rfl) rfl #[.agg #[.int .i64 s, .slice A l.length c], .bool false] (by rfl) rfl rfl (by (try simp only [List.map_toArray, List.map_cons, List.map_nil]); first | done | rfl) ?_
  (with_reducible refine (laws_toGraph_all.calls k s A c l false L _ (Kd.C_below HR.out HB.out) HC.out HL.out).mono ?_)
  rintro e w7 ⟨A7, c7, rfl, ho, hle, hb⟩
  refine ⟨_, rfl, ?_⟩
  have C7 := Aside0.mk (Kd.R_reads' ho).2.2
  have E7 := Aside0.mk (Kd.R_reads' ho).2.1
  clear ho hle
  have n0_ := Aside0.mk (below_step HB.out hb)
  have n1_ := Aside0.mk (blk_below (g := w.heap.size) (o := .cells #[.int .i64 s, .slice A l.length c] 24 (0, 0)) BKa.out hb)
  have n2_ := Aside0.mk (Kd.R_below HS.out hb)
  have n3_ := Aside0.mk (Kd.R_below HX.out hb)
  have n4_ := Aside0.mk (blk_below (g := w3.heap.size) (o := .cells #[.int .i64 rs, .slice As r.length cs] 26 (0, 0)) BKs.out hb)
  have n5_ := Aside0.mk (blk_below (g := w4.heap.size) (o := .cells #[.int .i64 s, .slice A4 l.length c4] 26 (0, 0)) BKx.out hb)
  have n6_ := Aside0.mk (Kd.R_below HG.out hb)
  have n7_ := Aside0.mk (blk_below (g := w5.heap.size) (o := .cells #[.int .i64 rs, .slice Ag r.length cg] 26 (0, 0)) BKg.out hb)
  clear HB BKa HS HX BKs BKx HG BKg hb
  have HB := n0_
  have BKa := n1_
  have HS := n2_
  have HX := n3_
  have BKs := n4_
  have BKx := n5_
  have HG := n6_
  have BKg := n7_
  clear n0_ n1_ n2_ n3_ n4_ n5_ n6_ n7_
  refine hK.out _ _ ⟨(blk_cell BKx.out 0).trans rfl, (blk_cell BKx.out 1).trans rfl, (blk_cell BKa.out 0).trans rfl, (blk_cell BKa.out 1).trans rfl⟩ (fun hHeld => ?_)
  clear hK K
  refine norm_ (a' := ?_) ?_ ?_
  rotate_left
  · show Act.put _ (some 47) _ = _
    simp only [Act.put, List.setIfInBounds_toArray, List.set_cons_zero, List.set_cons_succ, i64_w, i32_w]
    rfl
  refine one_ (i := 3) (N := some 48) #[true, true, true, true, false] rfl rfl (by kernel_rfl) (by decide) (fun K hK => ?_)
  refine goes_ Try.func11 (by kernel_rfl) rfl #[.agg #[.int .i64 s, .slice A4 l.length c4], .agg #[.int .i64 s, .slice A7 l.length c7]] (by rfl) rfl rfl (by (try simp only [List.map_toArray, List.map_cons, List.map_nil]); first | done | rfl) ?_
  (with_reducible refine (laws_intactGraph_same.calls k s A4 c4 A7 c7 l.length tr L _ (Kd.R_reads' HX.out).2.2 (Kd.R_reads' HX.out).2.1 C7.out E7.out F4.out HROOM.out HSUM.out HEQ.out).mono ?_)
  rintro e w8 ⟨rfl, hb⟩
  refine ⟨_, rfl, ?_⟩
  clear C7 E7
  have n0_ := Aside0.mk (below_step HB.out hb)
  have n1_ := Aside0.mk (blk_below (g := w.heap.size) (o := .cells #[.int .i64 s, .slice A l.length c] 24 (0, 0)) BKa.out hb)
  have n2_ := Aside0.mk (Kd.R_below HS.out hb)
  have n3_ := Aside0.mk (Kd.R_below HX.out hb)
  have n4_ := Aside0.mk (blk_below (g := w3.heap.size) (o := .cells #[.int .i64 rs, .slice As r.length cs] 26 (0, 0)) BKs.out hb)
  have n5_ := Aside0.mk (blk_below (g := w4.heap.size) (o := .cells #[.int .i64 s, .slice A4 l.length c4] 26 (0, 0)) BKx.out hb)
  have n6_ := Aside0.mk (Kd.R_below HG.out hb)
  have n7_ := Aside0.mk (blk_below (g := w5.heap.size) (o := .cells #[.int .i64 rs, .slice Ag r.length cg] 26 (0, 0)) BKg.out hb)
  clear HB BKa HS HX BKs BKx HG BKg hb
  have HB := n0_
  have BKa := n1_
  have HS := n2_
  have HX := n3_
  have BKs := n4_
  have BKx := n5_
  have HG := n6_
  have BKg := n7_
  clear n0_ n1_ n2_ n3_ n4_ n5_ n6_ n7_
  refine hK.out _ _ ⟨(blk_cell BKx.out 0).trans rfl, (blk_cell BKx.out 1).trans rfl, (blk_cell BKa.out 0).trans rfl, (blk_cell BKa.out 1).trans rfl⟩ (fun hHeld => ?_)
  clear hK K
  refine norm_ (a' := ?_) ?_ ?_
  rotate_left
  · show Act.put _ (some 48) _ = _
    simp only [Act.put, List.setIfInBounds_toArray, List.set_cons_zero, List.set_cons_succ, i64_w, i32_w]
    rfl
  refine pure_ (i := 4) (N := some 49) (v := ?_) (a' := ?_) #[true, true, true, true, true] rfl rfl (by kernel_rfl) (fun _ _ _ h => h) (Or.inl ⟨by rfl, ?_⟩) ?_ ?_
  rotate_left
  · intro w'
    go_simp
    with_reducible rfl
  rotate_left
  · simp only [Act.put, List.setIfInBounds_toArray, List.set_cons_zero, List.set_cons_succ, i64_w, i32_w]
    rfl
  refine done_ (by kernel_rfl) ?_
  clear hHeld
  have hA0 : w8.cell? ⟨w.heap.size, 0, none⟩ = some (.int .i64 s) := (blk_cell BKa.out 0).trans rfl
  have hA1 : w8.cell? ⟨w.heap.size, 1, none⟩ = some (.slice A l.length c) := (blk_cell BKa.out 1).trans rfl
  have hS0 : w8.cell? ⟨w3.heap.size, 0, none⟩ = some (.int .i64 rs) := (blk_cell BKs.out 0).trans rfl
  have hS1 : w8.cell? ⟨w3.heap.size, 1, none⟩ = some (.slice As r.length cs) := (blk_cell BKs.out 1).trans rfl
  have hX0 : w8.cell? ⟨w4.heap.size, 0, none⟩ = some (.int .i64 s) := (blk_cell BKx.out 0).trans rfl
  have hX1 : w8.cell? ⟨w4.heap.size, 1, none⟩ = some (.slice A4 l.length c4) := (blk_cell BKx.out 1).trans rfl
  have hG0 : w8.cell? ⟨w5.heap.size, 0, none⟩ = some (.int .i64 rs) := (blk_cell BKg.out 0).trans rfl
  have hG1 : w8.cell? ⟨w5.heap.size, 1, none⟩ = some (.slice Ag r.length cg) := (blk_cell BKg.out 1).trans rfl
  go_wp2_with fail
  have HXc := Aside0.mk (show Kd.R (Kd.int .i64) 3 w8 w.heap.size (fun j => w3.heap.size < j ∧ j < w4.heap.size) (.slice A4 l.length c4) l from by have h_ := Kd.R_take (m := l.length) HX.out F4.out; rw [HTAKE.out] at h_; exact h_)
  (with_reducible refine (laws_markGraph.calls k s (fun j => w3.heap.size < j ∧ j < w4.heap.size) (.slice A4 l.length c4) l 101 kx lx w _ HB.out HXc.out HMX.out).mono ?_)
  rintro e w9 ⟨rfl, hy, hb, hkp⟩
  have n0_ := Aside0.mk (hb)
  have n1_ := Aside0.mk (show w9.heap[w.heap.size]? = some (.cells #[.int .i64 s, .slice A l.length c] 24 (0, 0)) from blk_kept BKa.out hkp (fun h_ => by have := hlt3.out; have := hle34.out; have := hlt5.out; omega))
  have n2_ := Aside0.mk (Kd.R_kept HS.out hkp (fun j hj h_ => by have := hle34.out; have := hlt5.out; omega))
  have n3_ := Aside0.mk (show w9.heap[w3.heap.size]? = some (.cells #[.int .i64 rs, .slice As r.length cs] 26 (0, 0)) from blk_kept BKs.out hkp (fun h_ => by have := hlt3.out; have := hle34.out; have := hlt5.out; omega))
  have n4_ := Aside0.mk (Kd.R_kept HG.out hkp (fun j hj h_ => by have := hle34.out; have := hlt5.out; omega))
  have n5_ := Aside0.mk (show w9.heap[w5.heap.size]? = some (.cells #[.int .i64 rs, .slice Ag r.length cg] 26 (0, 0)) from blk_kept BKg.out hkp (fun h_ => by have := hlt3.out; have := hle34.out; have := hlt5.out; omega))
  clear hA0 hA1 hS0 hS1 hX0 hX1 hG0 hG1
  clear HB BKa HS BKs HG BKg HX HXc BKx hy hb hkp
  have HB := n0_
  have BKa := n1_
  have HS := n2_
  have BKs := n3_
  have HG := n4_
  have BKg := n5_
  clear n0_ n1_ n2_ n3_ n4_ n5_
  have hA0 : w9.cell? ⟨w.heap.size, 0, none⟩ = some (.int .i64 s) := (blk_cell BKa.out 0).trans rfl
  have hA1 : w9.cell? ⟨w.heap.size, 1, none⟩ = some (.slice A l.length c) := (blk_cell BKa.out 1).trans rfl
  have hS0 : w9.cell? ⟨w3.heap.size, 0, none⟩ = some (.int .i64 rs) := (blk_cell BKs.out 0).trans rfl
  have hS1 : w9.cell? ⟨w3.heap.size, 1, none⟩ = some (.slice As r.length cs) := (blk_cell BKs.out 1).trans rfl
  have hG0 : w9.cell? ⟨w5.heap.size, 0, none⟩ = some (.int .i64 rs) := (blk_cell BKg.out 0).trans rfl
  have hG1 : w9.cell? ⟨w5.heap.size, 1, none⟩ = some (.slice Ag r.length cg) := (blk_cell BKg.out 1).trans rfl
  go_wp2_with fail
  (with_reducible refine (laws_eqGraph.calls k rs Ag cg r rs As cs r true _ (Kd.R_reads' HG.out).2.2 (Kd.R_reads' HG.out).2.1 (Kd.R_reads' HS.out).2.2 (Kd.R_reads' HS.out).2.1 HEQR.out).mono ?_)
  rintro e w10 ⟨rfl, hb⟩
  have n0_ := Aside0.mk (below_step HB.out hb)
  have n1_ := Aside0.mk (blk_below (g := w.heap.size) (o := .cells #[.int .i64 s, .slice A l.length c] 24 (0, 0)) BKa.out hb)
  have n2_ := Aside0.mk (Kd.R_below HS.out hb)
  have n3_ := Aside0.mk (blk_below (g := w3.heap.size) (o := .cells #[.int .i64 rs, .slice As r.length cs] 26 (0, 0)) BKs.out hb)
  have n4_ := Aside0.mk (Kd.R_below HG.out hb)
  have n5_ := Aside0.mk (blk_below (g := w5.heap.size) (o := .cells #[.int .i64 rs, .slice Ag r.length cg] 26 (0, 0)) BKg.out hb)
  clear hA0 hA1 hS0 hS1 hG0 hG1
  clear HB BKa HS BKs HG BKg hb
  have HB := n0_
  have BKa := n1_
  have HS := n2_
  have BKs := n3_
  have HG := n4_
  have BKg := n5_
  clear n0_ n1_ n2_ n3_ n4_ n5_
  have hA0 : w10.cell? ⟨w.heap.size, 0, none⟩ = some (.int .i64 s) := (blk_cell BKa.out 0).trans rfl
  have hA1 : w10.cell? ⟨w.heap.size, 1, none⟩ = some (.slice A l.length c) := (blk_cell BKa.out 1).trans rfl
  have hS0 : w10.cell? ⟨w3.heap.size, 0, none⟩ = some (.int .i64 rs) := (blk_cell BKs.out 0).trans rfl
  have hS1 : w10.cell? ⟨w3.heap.size, 1, none⟩ = some (.slice As r.length cs) := (blk_cell BKs.out 1).trans rfl
  have hG0 : w10.cell? ⟨w5.heap.size, 0, none⟩ = some (.int .i64 rs) := (blk_cell BKg.out 0).trans rfl
  have hG1 : w10.cell? ⟨w5.heap.size, 1, none⟩ = some (.slice Ag r.length cg) := (blk_cell BKg.out 1).trans rfl
  go_wp2_with fail
  (with_reducible refine (laws_markGraph.calls k rs (fun j => w4.heap.size < j ∧ j < w5.heap.size) (.slice Ag r.length cg) r 101 m rm w _ HB.out HG.out HMR.out).mono ?_)
  rintro e w11 ⟨rfl, hy, hb, hkp⟩
  have hlen := Aside0.mk (show rm.length = r.length from (Kd.R_reads' hy).1.symm)
  have n0_ := Aside0.mk (hb)
  have n1_ := Aside0.mk (show w11.heap[w.heap.size]? = some (.cells #[.int .i64 s, .slice A l.length c] 24 (0, 0)) from blk_kept BKa.out hkp (fun h_ => by have := hlt3.out; have := hle34.out; have := hlt5.out; omega))
  have n2_ := Aside0.mk (Kd.R_kept HS.out hkp (fun j hj h_ => by have := hle34.out; have := hlt5.out; omega))
  have n3_ := Aside0.mk (show w11.heap[w3.heap.size]? = some (.cells #[.int .i64 rs, .slice As r.length cs] 26 (0, 0)) from blk_kept BKs.out hkp (fun h_ => by have := hlt3.out; have := hle34.out; have := hlt5.out; omega))
  have n4_ := Aside0.mk (show w11.heap[w5.heap.size]? = some (.cells #[.int .i64 rs, .slice Ag r.length cg] 26 (0, 0)) from blk_kept BKg.out hkp (fun h_ => by have := hlt3.out; have := hle34.out; have := hlt5.out; omega))
  have n9_ := Aside0.mk hy
  clear hA0 hA1 hS0 hS1 hG0 hG1
  clear HB BKa HS BKs HG BKg hy hb hkp
  have HB := n0_
  have BKa := n1_
  have HS := n2_
  have BKs := n3_
  have BKg := n4_
  have HG := n9_
  clear n9_ n0_ n1_ n2_ n3_ n4_
  have hA0 : w11.cell? ⟨w.heap.size, 0, none⟩ = some (.int .i64 s) := (blk_cell BKa.out 0).trans rfl
  have hA1 : w11.cell? ⟨w.heap.size, 1, none⟩ = some (.slice A l.length c) := (blk_cell BKa.out 1).trans rfl
  have hS0 : w11.cell? ⟨w3.heap.size, 0, none⟩ = some (.int .i64 rs) := (blk_cell BKs.out 0).trans rfl
  have hS1 : w11.cell? ⟨w3.heap.size, 1, none⟩ = some (.slice As r.length cs) := (blk_cell BKs.out 1).trans rfl
  have hG0 : w11.cell? ⟨w5.heap.size, 0, none⟩ = some (.int .i64 rs) := (blk_cell BKg.out 0).trans rfl
  have hG1 : w11.cell? ⟨w5.heap.size, 1, none⟩ = some (.slice Ag r.length cg) := (blk_cell BKg.out 1).trans rfl
  go_wp2_with fail
  have hc_ := laws_heldGraph.calls k rs Ag cg rm 101 m w11 (Kd.R_reads' HG.out).2.2 (by rw [hlen.out]; exact (Kd.R_reads' HG.out).2.1) HHR.out
  rw [hlen.out] at hc_
  (with_reducible refine hc_.mono ?_)
  clear hc_
  rintro e w12 ⟨rfl, hb⟩
  have n0_ := Aside0.mk (below_step HB.out hb)
  have n1_ := Aside0.mk (blk_below (g := w.heap.size) (o := .cells #[.int .i64 s, .slice A l.length c] 24 (0, 0)) BKa.out hb)
  have n2_ := Aside0.mk (Kd.R_below HS.out hb)
  have n3_ := Aside0.mk (blk_below (g := w3.heap.size) (o := .cells #[.int .i64 rs, .slice As r.length cs] 26 (0, 0)) BKs.out hb)
  have n4_ := Aside0.mk (Kd.R_below HG.out hb)
  have n5_ := Aside0.mk (blk_below (g := w5.heap.size) (o := .cells #[.int .i64 rs, .slice Ag r.length cg] 26 (0, 0)) BKg.out hb)
  clear hA0 hA1 hS0 hS1 hG0 hG1
  clear HB BKa HS BKs HG BKg hb
  have HB := n0_
  have BKa := n1_
  have HS := n2_
  have BKs := n3_
  have HG := n4_
  have BKg := n5_
  clear n0_ n1_ n2_ n3_ n4_ n5_
  have hA0 : w12.cell? ⟨w.heap.size, 0, none⟩ = some (.int .i64 s) := (blk_cell BKa.out 0).trans rfl
  have hA1 : w12.cell? ⟨w.heap.size, 1, none⟩ = some (.slice A l.length c) := (blk_cell BKa.out 1).trans rfl
  have hS0 : w12.cell? ⟨w3.heap.size, 0, none⟩ = some (.int .i64 rs) := (blk_cell BKs.out 0).trans rfl
  have hS1 : w12.cell? ⟨w3.heap.size, 1, none⟩ = some (.slice As r.length cs) := (blk_cell BKs.out 1).trans rfl
  have hG0 : w12.cell? ⟨w5.heap.size, 0, none⟩ = some (.int .i64 rs) := (blk_cell BKg.out 0).trans rfl
  have hG1 : w12.cell? ⟨w5.heap.size, 1, none⟩ = some (.slice Ag r.length cg) := (blk_cell BKg.out 1).trans rfl
  go_wp2_with fail
  (with_reducible refine (laws_toGraph.calls k s A c l true s l _ (Kd.C_below HR.out HB.out) HC.out HT.out).mono ?_)
  rintro e w13 ⟨v13, rfl, ho, hb⟩
  obtain ⟨A13, c13, eo⟩ := Kd.R_slice ho
  subst eo
  have C13 := Aside0.mk (Kd.R_reads' ho).2.2
  have E13 := Aside0.mk (Kd.R_reads' ho).2.1
  clear ho
  have n0_ := Aside0.mk (below_step HB.out hb)
  have n1_ := Aside0.mk (blk_below (g := w.heap.size) (o := .cells #[.int .i64 s, .slice A l.length c] 24 (0, 0)) BKa.out hb)
  have n2_ := Aside0.mk (Kd.R_below HS.out hb)
  have n3_ := Aside0.mk (blk_below (g := w3.heap.size) (o := .cells #[.int .i64 rs, .slice As r.length cs] 26 (0, 0)) BKs.out hb)
  have n4_ := Aside0.mk (Kd.R_below HG.out hb)
  have n5_ := Aside0.mk (blk_below (g := w5.heap.size) (o := .cells #[.int .i64 rs, .slice Ag r.length cg] 26 (0, 0)) BKg.out hb)
  clear hA0 hA1 hS0 hS1 hG0 hG1
  clear HB BKa HS BKs HG BKg hb
  have HB := n0_
  have BKa := n1_
  have HS := n2_
  have BKs := n3_
  have HG := n4_
  have BKg := n5_
  clear n0_ n1_ n2_ n3_ n4_ n5_
  have hA0 : w13.cell? ⟨w.heap.size, 0, none⟩ = some (.int .i64 s) := (blk_cell BKa.out 0).trans rfl
  have hA1 : w13.cell? ⟨w.heap.size, 1, none⟩ = some (.slice A l.length c) := (blk_cell BKa.out 1).trans rfl
  have hS0 : w13.cell? ⟨w3.heap.size, 0, none⟩ = some (.int .i64 rs) := (blk_cell BKs.out 0).trans rfl
  have hS1 : w13.cell? ⟨w3.heap.size, 1, none⟩ = some (.slice As r.length cs) := (blk_cell BKs.out 1).trans rfl
  have hG0 : w13.cell? ⟨w5.heap.size, 0, none⟩ = some (.int .i64 rs) := (blk_cell BKg.out 0).trans rfl
  have hG1 : w13.cell? ⟨w5.heap.size, 1, none⟩ = some (.slice Ag r.length cg) := (blk_cell BKg.out 1).trans rfl
  go_wp2_with fail
  (with_reducible refine (impl_WithoutVertex.calls k s A13 c13 l x1 rs r rb _ C13.out E13.out HIMPL.out).mono ?_)
  rintro e w14 ⟨v14, rfl, ho, hb⟩
  obtain ⟨Ah, ch, eo⟩ := Kd.R_slice ho
  subst eo
  have HH := Aside0.mk ho
  clear ho C13 E13
  have n0_ := Aside0.mk (below_step HB.out hb)
  have n1_ := Aside0.mk (blk_below (g := w.heap.size) (o := .cells #[.int .i64 s, .slice A l.length c] 24 (0, 0)) BKa.out hb)
  have n2_ := Aside0.mk (Kd.R_below HS.out hb)
  have n3_ := Aside0.mk (blk_below (g := w3.heap.size) (o := .cells #[.int .i64 rs, .slice As r.length cs] 26 (0, 0)) BKs.out hb)
  have n4_ := Aside0.mk (Kd.R_below HG.out hb)
  have n5_ := Aside0.mk (blk_below (g := w5.heap.size) (o := .cells #[.int .i64 rs, .slice Ag r.length cg] 26 (0, 0)) BKg.out hb)
  clear hA0 hA1 hS0 hS1 hG0 hG1
  clear HB BKa HS BKs HG BKg hb
  have HB := n0_
  have BKa := n1_
  have HS := n2_
  have BKs := n3_
  have HG := n4_
  have BKg := n5_
  clear n0_ n1_ n2_ n3_ n4_ n5_
  have hAa0 : ∀ o : Obj, (w14.alloc o).cell? ⟨w.heap.size, 0, none⟩ = some (.int .i64 s) := fun o => (blk_cell (blk_alloc BKa.out o) 0).trans rfl
  have hAa1 : ∀ o : Obj, (w14.alloc o).cell? ⟨w.heap.size, 1, none⟩ = some (.slice A l.length c) := fun o => (blk_cell (blk_alloc BKa.out o) 1).trans rfl
  have hA0 : w14.cell? ⟨w.heap.size, 0, none⟩ = some (.int .i64 s) := (blk_cell BKa.out 0).trans rfl
  have hA1 : w14.cell? ⟨w.heap.size, 1, none⟩ = some (.slice A l.length c) := (blk_cell BKa.out 1).trans rfl
  have hSa0 : ∀ o : Obj, (w14.alloc o).cell? ⟨w3.heap.size, 0, none⟩ = some (.int .i64 rs) := fun o => (blk_cell (blk_alloc BKs.out o) 0).trans rfl
  have hSa1 : ∀ o : Obj, (w14.alloc o).cell? ⟨w3.heap.size, 1, none⟩ = some (.slice As r.length cs) := fun o => (blk_cell (blk_alloc BKs.out o) 1).trans rfl
  have hS0 : w14.cell? ⟨w3.heap.size, 0, none⟩ = some (.int .i64 rs) := (blk_cell BKs.out 0).trans rfl
  have hS1 : w14.cell? ⟨w3.heap.size, 1, none⟩ = some (.slice As r.length cs) := (blk_cell BKs.out 1).trans rfl
  have hGa0 : ∀ o : Obj, (w14.alloc o).cell? ⟨w5.heap.size, 0, none⟩ = some (.int .i64 rs) := fun o => (blk_cell (blk_alloc BKg.out o) 0).trans rfl
  have hGa1 : ∀ o : Obj, (w14.alloc o).cell? ⟨w5.heap.size, 1, none⟩ = some (.slice Ag r.length cg) := fun o => (blk_cell (blk_alloc BKg.out o) 1).trans rfl
  have hG0 : w14.cell? ⟨w5.heap.size, 0, none⟩ = some (.int .i64 rs) := (blk_cell BKg.out 0).trans rfl
  have hG1 : w14.cell? ⟨w5.heap.size, 1, none⟩ = some (.slice Ag r.length cg) := (blk_cell BKg.out 1).trans rfl
  go_wp2_with fail
  (with_reducible refine (laws_eqGraph.calls k rs Ah ch r rs As cs r true _ (Kd.R_reads' (Kd.R_alloc HH.out _)).2.2 (Kd.R_reads' HH.out).2.1 (Kd.R_reads' (Kd.R_alloc HS.out _)).2.2 (Kd.R_reads' HS.out).2.1 HEQR.out).mono ?_)
  rintro e w15 ⟨rfl, hb⟩
  have n0_ := Aside0.mk (below_step (below_alloc HB.out _) hb)
  have n1_ := Aside0.mk (blk_below (g := w.heap.size) (o := .cells #[.int .i64 s, .slice A l.length c] 24 (0, 0)) (blk_alloc BKa.out _) hb)
  have n2_ := Aside0.mk (Kd.R_below (Kd.R_alloc HS.out _) hb)
  have n3_ := Aside0.mk (blk_below (g := w3.heap.size) (o := .cells #[.int .i64 rs, .slice As r.length cs] 26 (0, 0)) (blk_alloc BKs.out _) hb)
  have n4_ := Aside0.mk (Kd.R_below (Kd.R_alloc HG.out _) hb)
  have n5_ := Aside0.mk (blk_below (g := w5.heap.size) (o := .cells #[.int .i64 rs, .slice Ag r.length cg] 26 (0, 0)) (blk_alloc BKg.out _) hb)
  have n6_ := Aside0.mk (Kd.R_below (Kd.R_alloc HH.out _) hb)
  clear hAa0 hAa1 hA0 hA1 hSa0 hSa1 hS0 hS1 hGa0 hGa1 hG0 hG1
  clear HB BKa HS BKs HG BKg HH hb
  have HB := n0_
  have BKa := n1_
  have HS := n2_
  have BKs := n3_
  have HG := n4_
  have BKg := n5_
  have HH := n6_
  clear n0_ n1_ n2_ n3_ n4_ n5_ n6_
  have hA0 : w15.cell? ⟨w.heap.size, 0, none⟩ = some (.int .i64 s) := (blk_cell BKa.out 0).trans rfl
  have hA1 : w15.cell? ⟨w.heap.size, 1, none⟩ = some (.slice A l.length c) := (blk_cell BKa.out 1).trans rfl
  have hS0 : w15.cell? ⟨w3.heap.size, 0, none⟩ = some (.int .i64 rs) := (blk_cell BKs.out 0).trans rfl
  have hS1 : w15.cell? ⟨w3.heap.size, 1, none⟩ = some (.slice As r.length cs) := (blk_cell BKs.out 1).trans rfl
  have hG0 : w15.cell? ⟨w5.heap.size, 0, none⟩ = some (.int .i64 rs) := (blk_cell BKg.out 0).trans rfl
  have hG1 : w15.cell? ⟨w5.heap.size, 1, none⟩ = some (.slice Ag r.length cg) := (blk_cell BKg.out 1).trans rfl
  go_wp2_with fail
  have hc_ := laws_heldGraph.calls k rs Ag cg rm 101 m w15 (Kd.R_reads' HG.out).2.2 (by rw [hlen.out]; exact (Kd.R_reads' HG.out).2.1) HHR.out
  rw [hlen.out] at hc_
  (with_reducible refine hc_.mono ?_)
  clear hc_
  rintro e w16 ⟨rfl, hb⟩
  have n0_ := Aside0.mk (below_step HB.out hb)
  have n1_ := Aside0.mk (blk_below (g := w.heap.size) (o := .cells #[.int .i64 s, .slice A l.length c] 24 (0, 0)) BKa.out hb)
  have n2_ := Aside0.mk (Kd.R_below HS.out hb)
  have n3_ := Aside0.mk (blk_below (g := w3.heap.size) (o := .cells #[.int .i64 rs, .slice As r.length cs] 26 (0, 0)) BKs.out hb)
  have n4_ := Aside0.mk (Kd.R_below HG.out hb)
  have n5_ := Aside0.mk (blk_below (g := w5.heap.size) (o := .cells #[.int .i64 rs, .slice Ag r.length cg] 26 (0, 0)) BKg.out hb)
  have n6_ := Aside0.mk (Kd.R_below HH.out hb)
  clear hA0 hA1 hS0 hS1 hG0 hG1
  clear HB BKa HS BKs HG BKg HH hb
  have HB := n0_
  have BKa := n1_
  have HS := n2_
  have BKs := n3_
  have HG := n4_
  have BKg := n5_
  have HH := n6_
  clear n0_ n1_ n2_ n3_ n4_ n5_ n6_
  have hA0 : w16.cell? ⟨w.heap.size, 0, none⟩ = some (.int .i64 s) := (blk_cell BKa.out 0).trans rfl
  have hA1 : w16.cell? ⟨w.heap.size, 1, none⟩ = some (.slice A l.length c) := (blk_cell BKa.out 1).trans rfl
  have hS0 : w16.cell? ⟨w3.heap.size, 0, none⟩ = some (.int .i64 rs) := (blk_cell BKs.out 0).trans rfl
  have hS1 : w16.cell? ⟨w3.heap.size, 1, none⟩ = some (.slice As r.length cs) := (blk_cell BKs.out 1).trans rfl
  have hG0 : w16.cell? ⟨w5.heap.size, 0, none⟩ = some (.int .i64 rs) := (blk_cell BKg.out 0).trans rfl
  have hG1 : w16.cell? ⟨w5.heap.size, 1, none⟩ = some (.slice Ag r.length cg) := (blk_cell BKg.out 1).trans rfl
  go_wp2_with fail
  go_ret
  exact ⟨by first | rfl | (simp; done) | (simp [*]; done), by repeat (first | (with_reducible first | exact HB.out | apply below_alloc | apply pw_below_drewN | apply below_drew1) | exact HB.out)⟩
set_option maxHeartbeats 8000000 in
set_option maxRecDepth 100000 in
theorem laws_FnExactWithoutVertex.big (s : Int) (A : Option Addr) (c : Nat) (l : List Int) (x1 : Int) (left : Int) (w : World) (hr : Kd.C (Kd.int .i64) w A l.length l) (hc : l.length ≤ c) (hsz : laws_szGraph.f s l 1000000 = some left) (hleft : left < 0) :
    Calls Try.prog 3 #[.agg #[.int .i64 s, .slice A l.length c], .int .i64 x1] w fun e w' => e = .returned (.bool true) ∧ Below w.heap.size w w' := by
  have hu1 := Try.underlying24
  have HR := Aside0.mk hr
  have HC := Aside0.mk hc
  have HSZ := Aside0.mk hsz
  have hl0 : decide (left < 0) = true := decide_eq_true hleft
  clear hr hc hsz hleft
  go_enter Try.func3, Try.ntmps3
  go_wp2_with fail
  (with_reducible refine (laws_szGraph.calls s A c l 1000000 left _ (Kd.C_alloc HR.out _) HC.out HSZ.out).mono ?_)
  rintro e w1 ⟨rfl, hb⟩
  have HB := Aside0.mk (below_step (below_alloc (Below.refl _ _) _) hb)
  clear hb
  go_wp2_with fail
  go_ret
  exact ⟨by first | rfl | (simp; done) | (simp [*]; done), by repeat (first | (with_reducible first | exact HB.out | apply below_alloc | apply pw_below_drewN | apply below_drew1) | exact HB.out)⟩
/-- What is left to show: both functions give one graph. -/
def laws_FnExactWithoutVertex.Same : Prop := ∀ (s : Int) (l : List Int) (x1 : Int) , (Lit.int .i64 s).wf = true → (Lit.int .i64 x1).wf = true → l.length ≤ 1000000 → (∀ x ∈ l, (Lit.int .i64 x).wf = true) → ∃ (k : Nat) (rs : Int) (r : List Int) (rb : Bool), r.length ≤ 1000000 ∧ spec_WithoutVertex.f k s l x1 = some (rs, r, rb) ∧ impl_WithoutVertex.f k s l x1 = some (rs, r, rb)
theorem laws_FnExactWithoutVertex.walk (P : laws_FnExactWithoutVertex.Same) (s : Int) (A : Option Addr) (c : Nat) (l : List Int) (x1 : Int) (w : World) (hs : (Lit.int .i64 s).wf = true) (hx1 : (Lit.int .i64 x1).wf = true) (hr : Kd.C (Kd.int .i64) w A l.length l) (hc : l.length ≤ c) (hlen : l.length * 8 ≤ 140737488351232) (hwf : ∀ x ∈ l, (Lit.int .i64 x).wf = true) :
    Calls Try.prog 3 #[.agg #[.int .i64 s, .slice A l.length c], .int .i64 x1] w fun e w' => e = .returned (.bool true) ∧ Below w.heap.size w w' := by
  obtain ⟨left, hsz, hl1, hl2⟩ := sz_graph s l (by omega)
  by_cases hb : left < 0
  · exact laws_FnExactWithoutVertex.big s A c l x1 left w hr hc hsz hb
  · have hm : l.length ≤ 1000000 := hl1 hb
    obtain ⟨k, rs, r, rb, hrl, h1, h2⟩ := P s l x1 hs hx1 hm hwf
    obtain ⟨tr, L, hL, hT, htake, hroom, hsum, heq⟩ := copy_facts s l hm (l.length * 4 + r.length * 4 + 100 + k) (by omega)
    obtain ⟨m1, l1, g1, _, g3⟩ := mark_facts l hm (l.length * 4 + r.length * 4 + 100 + k) (by omega)
    obtain ⟨m2, l2, e1, e2, e3⟩ := mark_facts r hrl (l.length * 4 + r.length * 4 + 100 + k) (by omega)
    exact laws_FnExactWithoutVertex.small s A c l x1 (l.length * 4 + r.length * 4 + 100 + k) left tr m1 l1 L m2 rs r l2 rb w hr hc hsz hb hL hT htake hroom hsum heq (at_rounds (fun j => spec_WithoutVertex.mono s l x1 j) (by omega) h1) (at_rounds (fun j => impl_WithoutVertex.mono s l x1 j) (by omega) h2) (by unfold laws_markGraph.f; rw [g1]; rfl) g3 (by unfold laws_eqGraph.f; rw [if_pos rfl, eq_self_facts r hrl (l.length * 4 + r.length * 4 + 100 + k) (by omega)]; rfl) (by unfold laws_markGraph.f; rw [e1]; rfl) e3 (by unfold laws_heldGraph.f; rw [e2, Option.bind_some, if_neg e3])

end Go.Proofs.Ytfnlbakeefcmeaa.Q
