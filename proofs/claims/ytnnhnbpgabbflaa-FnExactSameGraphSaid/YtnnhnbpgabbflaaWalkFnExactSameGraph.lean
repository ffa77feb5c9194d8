/- Made by a program of this session (wip/tools/mksame.py): the walk of the law FnExactSameGraph, out of what the two functions give; no condition beside that. -/
import Derived.Test.YtnnhnbpgabbflaaXLaw
import Derived.Test.YtnnhnbpgabbflaaCopies
import Derived.Test.YtnnhnbpgabbflaaQx0
import Derived.Test.YtnnhnbpgabbflaaQx5
import Derived.Test.YtnnhnbpgabbflaaQx17
import Derived.Test.YtnnhnbpgabbflaaQx18
import Derived.Test.YtnnhnbpgabbflaaQx20
namespace Go.Proofs.Ytnnhnbpgabbflaa.Q
open Go.RowKit Go.Proofs.YtnnhnbpgabbflaaW.PrintWords Go.Proofs.YtnnhnbpgabbflaaW.PrintLast Go.Proofs.YtnnhnbpgabbflaaW.PrintMore Go.Proofs.Ytnnhnbpgabbflaa.Pure
attribute [local go_sem] max2_int min2_int max_two min_two max_three min_three max_four min_four
set_option linter.unusedVariables false
set_option linter.unusedSimpArgs false

set_option maxHeartbeats 8000000 in
set_option maxRecDepth 100000 in
theorem laws_FnExactSameGraph.small (s1 : Int) (A1 : Option Addr) (c1 : Nat) (l1 : List Int) (s2 : Int) (A2 : Option Addr) (c2 : Nat) (l2 : List Int) (k : Nat) (left1 left2 tr1 tr2 : Int) (L1 L2 : List Int) (r : Bool) (w : World) (hr1 : Kd.C (Kd.int .i64) w A1 l1.length l1) (hc1 : l1.length ≤ c1) (hr2 : Kd.C (Kd.int .i64) w A2 l2.length l2) (hc2 : l2.length ≤ c2)
    (hsz1 : laws_szGraph.f s1 l1 1000000 = some left1) (hsz2 : laws_szGraph.f s2 l2 left1 = some left2) (hleft1 : ¬ left1 < 0) (hleft2 : ¬ left2 < 0)
    (hL1 : laws_toIntS_all.f k l1 false = some L1) (hT1 : laws_toGraph.f k s1 l1 true = some (s1, l1)) (htake1 : L1.take l1.length = l1) (hroom1 : laws_roomBehind.f (l1.length : Int) = some tr1) (hsum1 : wrap64 ((l1.length : Int) + tr1) = (L1.length : Int)) (heq1 : laws_eqIntS.f k L1 L1 = some true)
    (hL2 : laws_toIntS_all.f k l2 false = some L2) (hT2 : laws_toGraph.f k s2 l2 true = some (s2, l2)) (htake2 : L2.take l2.length = l2) (hroom2 : laws_roomBehind.f (l2.length : Int) = some tr2) (hsum2 : wrap64 ((l2.length : Int) + tr2) = (L2.length : Int)) (heq2 : laws_eqIntS.f k L2 L2 = some true)
    (hspec : spec_SameGraph.f k s1 l1 s2 l2 = some r) (himpl : impl_SameGraph.f k s1 l1 s2 l2 = some r) :
    Calls Try.prog 11 #[.agg #[.int .i64 s1, .slice A1 l1.length c1], .agg #[.int .i64 s2, .slice A2 l2.length c2]] w fun e w' => e = .returned (.bool true) ∧ Below w.heap.size w w' := by
  have hu1 := Try.underlying41
  have hu2 := Try.underlying36
  have HSPEC := Aside0.mk hspec
  have HIMPL := Aside0.mk himpl
  have HR1 := Aside0.mk hr1
  have HC1 := Aside0.mk hc1
  have HSZ1 := Aside0.mk hsz1
  have HL1 := Aside0.mk hL1
  have HT1 := Aside0.mk hT1
  have HTAKE1 := Aside0.mk htake1
  have HROOM1 := Aside0.mk hroom1
  have HSUM1 := Aside0.mk hsum1
  have HEQ1 := Aside0.mk heq1
  have HR2 := Aside0.mk hr2
  have HC2 := Aside0.mk hc2
  have HSZ2 := Aside0.mk hsz2
  have HL2 := Aside0.mk hL2
  have HT2 := Aside0.mk hT2
  have HTAKE2 := Aside0.mk htake2
  have HROOM2 := Aside0.mk hroom2
  have HSUM2 := Aside0.mk hsum2
  have HEQ2 := Aside0.mk heq2
  have hl1 : decide (left1 < 0) = false := decide_eq_false hleft1
  have hl2 : decide (left2 < 0) = false := decide_eq_false hleft2
  have hrr : (r != r) = false := by simp
  clear hspec himpl hr1 hc1 hsz1 hL1 hT1 htake1 hroom1 hsum1 heq1 hr2 hc2 hsz2 hL2 hT2 htake2 hroom2 hsum2 heq2 hleft1 hleft2
  have esz : ∀ o : Obj, (w.alloc o).heap.size = w.heap.size + 1 := fun o => by simp
  go_enter Try.func11, Try.ntmps11
  go_wp2_with fail
  (with_reducible refine (laws_szGraph.calls s1 A1 c1 l1 1000000 left1 _ (Kd.C_alloc (Kd.C_alloc HR1.out _) _) HC1.out HSZ1.out).mono ?_)
  rintro e w1 ⟨rfl, hb⟩
  have HB := Aside0.mk (below_step (below_alloc (below_alloc (Below.refl _ _) _) _) hb)
  have BKa := Aside0.mk (show w1.heap[w.heap.size]? = some (.cells #[.int .i64 s1, .slice A1 l1.length c1] 41 (0, 0)) from blk_below (g := w.heap.size) (o := .cells #[.int .i64 s1, .slice A1 l1.length c1] 41 (0, 0)) (blk_alloc (heap_alloc_new _ _) _) hb)
  have BKb := Aside0.mk (show w1.heap[w.heap.size + 1]? = some (.cells #[.int .i64 s2, .slice A2 l2.length c2] 41 (0, 0)) from blk_below (g := w.heap.size + 1) (o := .cells #[.int .i64 s2, .slice A2 l2.length c2] 41 (0, 0)) (by have h_ := heap_alloc_new (w.alloc (.cells #[.int .i64 s1, .slice A1 l1.length c1] 41 (0, 0))) (.cells #[.int .i64 s2, .slice A2 l2.length c2] 41 (0, 0)); rw [esz] at h_; exact h_) hb)
  clear hb
  have hA0 : w1.cell? ⟨w.heap.size, 0, none⟩ = some (.int .i64 s1) := (blk_cell BKa.out 0).trans rfl
  have hA1 : w1.cell? ⟨w.heap.size, 1, none⟩ = some (.slice A1 l1.length c1) := (blk_cell BKa.out 1).trans rfl
  have hB0 : w1.cell? ⟨(w.heap.size + 1), 0, none⟩ = some (.int .i64 s2) := (blk_cell BKb.out 0).trans rfl
  have hB1 : w1.cell? ⟨(w.heap.size + 1), 1, none⟩ = some (.slice A2 l2.length c2) := (blk_cell BKb.out 1).trans rfl
  go_wp2_with fail
  (with_reducible refine (laws_szGraph.calls s2 A2 c2 l2 left1 left2 _ (Kd.C_below HR2.out HB.out) HC2.out HSZ2.out).mono ?_)
  rintro e w2 ⟨rfl, hb⟩
  have n0_ := Aside0.mk (below_step HB.out hb)
  have n1_ := Aside0.mk (blk_below (g := w.heap.size) (o := .cells #[.int .i64 s1, .slice A1 l1.length c1] 41 (0, 0)) BKa.out hb)
  have n2_ := Aside0.mk (blk_below (g := (w.heap.size + 1)) (o := .cells #[.int .i64 s2, .slice A2 l2.length c2] 41 (0, 0)) BKb.out hb)
  clear hA0 hA1 hB0 hB1
  clear HB BKa BKb hb
  have HB := n0_
  have BKa := n1_
  have BKb := n2_
  clear n0_ n1_ n2_
  have hA0 : w2.cell? ⟨w.heap.size, 0, none⟩ = some (.int .i64 s1) := (blk_cell BKa.out 0).trans rfl
  have hA1 : w2.cell? ⟨w.heap.size, 1, none⟩ = some (.slice A1 l1.length c1) := (blk_cell BKa.out 1).trans rfl
  have hB0 : w2.cell? ⟨(w.heap.size + 1), 0, none⟩ = some (.int .i64 s2) := (blk_cell BKb.out 0).trans rfl
  have hB1 : w2.cell? ⟨(w.heap.size + 1), 1, none⟩ = some (.slice A2 l2.length c2) := (blk_cell BKb.out 1).trans rfl
  go_wp2_with fail
  have n0_ := Aside0.mk (below_drew1 HB.out)
  have n1_ := Aside0.mk (blk_drew BKa.out)
  have n2_ := Aside0.mk (blk_drew BKb.out)
  clear hA0 hA1 hB0 hB1
  clear HB BKa BKb
  have HB := n0_
  have BKa := n1_
  have BKb := n2_
  clear n0_ n1_ n2_
  refine start_ (n := 6) (S := fun w' => w'.cell? ⟨w.heap.size, 0, none⟩ = some (.int .i64 s1) ∧ w'.cell? ⟨w.heap.size, 1, none⟩ = some (.slice A1 l1.length c1) ∧ w'.cell? ⟨(w.heap.size + 1), 0, none⟩ = some (.int .i64 s2) ∧ w'.cell? ⟨(w.heap.size + 1), 1, none⟩ = some (.slice A2 l2.length c2)) (ds := []) #[false, false, false, false, false, false] (by kernel_rfl) rfl rfl ⟨(blk_cell BKa.out 0).trans rfl, (blk_cell BKa.out 1).trans rfl, (blk_cell BKb.out 0).trans rfl, (blk_cell BKb.out 1).trans rfl⟩ (fun hHeld => ?_)
  generalize w2.drew = w3 at HB BKa BKb hHeld ⊢
  refine take_ (i := 0) (N := some 21) (v := ?_) (a' := ?_) #[true, false, false, false, false, false] rfl rfl (by kernel_rfl) (fun _ _ _ h => h) (Or.inl ⟨by rfl, ?_⟩) hHeld ?_ ?_
  rotate_left
  · rintro w' ⟨s0, s1, s2, s3⟩
    go_simp
    with_reducible rfl
  rotate_left
  · simp only [Act.put, List.setIfInBounds_toArray, List.set_cons_zero, List.set_cons_succ, i64_w, i32_w]
    rfl
  refine take_ (i := 2) (N := some 23) (v := ?_) (a' := ?_) #[true, false, true, false, false, false] rfl rfl (by kernel_rfl) (fun _ _ _ h => h) (Or.inl ⟨by rfl, ?_⟩) hHeld ?_ ?_
  rotate_left
  · rintro w' ⟨s0, s1, s2, s3⟩
    go_simp
    with_reducible rfl
  rotate_left
  · simp only [Act.put, List.setIfInBounds_toArray, List.set_cons_zero, List.set_cons_succ, i64_w, i32_w]
    rfl
  refine one_ (i := 1) (N := some 22) #[true, true, true, false, false, false] rfl rfl (by kernel_rfl) (by decide) (fun K hK => ?_)
  refine goes_ Try.func38 (by kernel_rfl) rfl #[.agg #[.int .i64 s1, .slice A1 l1.length c1], .bool false] (by rfl) rfl rfl (by (try simp only [List.map_toArray, List.map_cons, List.map_nil]); first | done | rfl) ?_
  (with_reducible refine (laws_toGraph_all.calls k s1 A1 c1 l1 false L1 _ (Kd.C_below HR1.out HB.out) HC1.out HL1.out).mono ?_)
  rintro e w3a ⟨A1w3, c1w3, rfl, ho, hle, hb⟩
  refine ⟨_, rfl, ?_⟩
  have C1w3 := Aside0.mk (cut_row (Kd.R_reads' ho).2.2 HTAKE1.out)
  have E1w3 := Aside0.mk (Nat.le_trans hle (Kd.R_reads' ho).2.1)
  clear ho hle
  have n0_ := Aside0.mk (below_step HB.out hb)
  have n1_ := Aside0.mk (blk_below (g := w.heap.size) (o := .cells #[.int .i64 s1, .slice A1 l1.length c1] 41 (0, 0)) BKa.out hb)
  have n2_ := Aside0.mk (blk_below (g := (w.heap.size + 1)) (o := .cells #[.int .i64 s2, .slice A2 l2.length c2] 41 (0, 0)) BKb.out hb)
  clear HB BKa BKb hb
  have HB := n0_
  have BKa := n1_
  have BKb := n2_
  clear n0_ n1_ n2_
  refine hK.out _ _ ⟨(blk_cell BKa.out 0).trans rfl, (blk_cell BKa.out 1).trans rfl, (blk_cell BKb.out 0).trans rfl, (blk_cell BKb.out 1).trans rfl⟩ (fun hHeld => ?_)
  clear hK K
  refine norm_ (a' := ?_) ?_ ?_
  rotate_left
  · show Act.put _ (some 22) _ = _
    simp only [Act.put, List.setIfInBounds_toArray, List.set_cons_zero, List.set_cons_succ, i64_w, i32_w]
    rfl
  refine one_ (i := 3) (N := some 24) #[true, true, true, true, false, false] rfl rfl (by kernel_rfl) (by decide) (fun K hK => ?_)
  refine goes_ Try.func38 (by kernel_rfl) rfl #[.agg #[.int .i64 s2, .slice A2 l2.length c2], .bool false] (by rfl) rfl rfl (by (try simp only [List.map_toArray, List.map_cons, List.map_nil]); first | done | rfl) ?_
  (with_reducible refine (laws_toGraph_all.calls k s2 A2 c2 l2 false L2 _ (Kd.C_below HR2.out HB.out) HC2.out HL2.out).mono ?_)
  rintro e w3b ⟨A2w3, c2w3, rfl, ho, hle, hb⟩
  refine ⟨_, rfl, ?_⟩
  have C2w3 := Aside0.mk (cut_row (Kd.R_reads' ho).2.2 HTAKE2.out)
  have E2w3 := Aside0.mk (Nat.le_trans hle (Kd.R_reads' ho).2.1)
  clear ho hle
  have n0_ := Aside0.mk (below_step HB.out hb)
  have n1_ := Aside0.mk (blk_below (g := w.heap.size) (o := .cells #[.int .i64 s1, .slice A1 l1.length c1] 41 (0, 0)) BKa.out hb)
  have n2_ := Aside0.mk (blk_below (g := (w.heap.size + 1)) (o := .cells #[.int .i64 s2, .slice A2 l2.length c2] 41 (0, 0)) BKb.out hb)
  have n3_ := Aside0.mk (Kd.C_below C1w3.out hb)
  clear HB BKa BKb C1w3 hb
  have HB := n0_
  have BKa := n1_
  have BKb := n2_
  have C1w3 := n3_
  clear n0_ n1_ n2_ n3_
  refine hK.out _ _ ⟨(blk_cell BKa.out 0).trans rfl, (blk_cell BKa.out 1).trans rfl, (blk_cell BKb.out 0).trans rfl, (blk_cell BKb.out 1).trans rfl⟩ (fun hHeld => ?_)
  clear hK K
  refine norm_ (a' := ?_) ?_ ?_
  rotate_left
  · show Act.put _ (some 24) _ = _
    simp only [Act.put, List.setIfInBounds_toArray, List.set_cons_zero, List.set_cons_succ, i64_w, i32_w]
    rfl
  refine one_ (i := 4) (N := some 25) #[true, true, true, true, true, false] rfl rfl (by kernel_rfl) (by decide) (fun K hK => ?_)
  refine goes_ Try.func37 (by kernel_rfl) rfl #[.agg #[.int .i64 s1, .slice A1w3 l1.length c1w3], .agg #[.int .i64 s2, .slice A2w3 l2.length c2w3]] (by rfl) rfl rfl (by (try simp only [List.map_toArray, List.map_cons, List.map_nil]); first | done | rfl) ?_
  (with_reducible refine (spec_SameGraph.calls k s1 A1w3 c1w3 l1 s2 A2w3 c2w3 l2 r _ C1w3.out E1w3.out C2w3.out E2w3.out HSPEC.out).mono ?_)
  rintro e w5 ⟨rfl, hb⟩
  refine ⟨_, rfl, ?_⟩
  have n0_ := Aside0.mk (below_step HB.out hb)
  have n1_ := Aside0.mk (blk_below (g := w.heap.size) (o := .cells #[.int .i64 s1, .slice A1 l1.length c1] 41 (0, 0)) BKa.out hb)
  have n2_ := Aside0.mk (blk_below (g := (w.heap.size + 1)) (o := .cells #[.int .i64 s2, .slice A2 l2.length c2] 41 (0, 0)) BKb.out hb)
  have n3_ := Aside0.mk (Kd.C_below C1w3.out hb)
  have n4_ := Aside0.mk (Kd.C_below C2w3.out hb)
  clear HB BKa BKb C1w3 C2w3 hb
  have HB := n0_
  have BKa := n1_
  have BKb := n2_
  have C1w3 := n3_
  have C2w3 := n4_
  clear n0_ n1_ n2_ n3_ n4_
  refine hK.out _ _ ⟨(blk_cell BKa.out 0).trans rfl, (blk_cell BKa.out 1).trans rfl, (blk_cell BKb.out 0).trans rfl, (blk_cell BKb.out 1).trans rfl⟩ (fun hHeld => ?_)
  clear hK K
  refine norm_ (a' := ?_) ?_ ?_
  rotate_left
  · show Act.put _ (some 25) _ = _
    simp only [Act.put, List.setIfInBounds_toArray, List.set_cons_zero, List.set_cons_succ, i64_w, i32_w]
    rfl
  clear C1w3 C2w3 E1w3 E2w3
  refine pure_ (i := 5) (N := some 6) (v := ?_) (a' := ?_) #[true, true, true, true, true, true] rfl rfl (by kernel_rfl) (fun _ _ _ h => h) (Or.inl ⟨by rfl, ?_⟩) ?_ ?_
  rotate_left
  · intro w'
    go_simp
    with_reducible rfl
  rotate_left
  · simp only [Act.put, List.setIfInBounds_toArray, List.set_cons_zero, List.set_cons_succ, i64_w, i32_w]
    rfl
  refine done_ (by kernel_rfl) ?_
  clear hHeld
  have hA0 : w5.cell? ⟨w.heap.size, 0, none⟩ = some (.int .i64 s1) := (blk_cell BKa.out 0).trans rfl
  have hA1 : w5.cell? ⟨w.heap.size, 1, none⟩ = some (.slice A1 l1.length c1) := (blk_cell BKa.out 1).trans rfl
  have hB0 : w5.cell? ⟨(w.heap.size + 1), 0, none⟩ = some (.int .i64 s2) := (blk_cell BKb.out 0).trans rfl
  have hB1 : w5.cell? ⟨(w.heap.size + 1), 1, none⟩ = some (.slice A2 l2.length c2) := (blk_cell BKb.out 1).trans rfl
  go_wp2_with fail
  (with_reducible refine (laws_toGraph_all.calls k s1 A1 c1 l1 false L1 _ (Kd.C_below HR1.out HB.out) HC1.out HL1.out).mono ?_)
  rintro e w6 ⟨A6, c6, rfl, ho, hle, hb⟩
  have C6 := Aside0.mk (Kd.R_reads' ho).2.2
  have E6 := Aside0.mk (Kd.R_reads' ho).2.1
  have F6 := Aside0.mk hle
  clear ho hle
  have n0_ := Aside0.mk (below_step HB.out hb)
  have n1_ := Aside0.mk (blk_below (g := w.heap.size) (o := .cells #[.int .i64 s1, .slice A1 l1.length c1] 41 (0, 0)) BKa.out hb)
  have n2_ := Aside0.mk (blk_below (g := (w.heap.size + 1)) (o := .cells #[.int .i64 s2, .slice A2 l2.length c2] 41 (0, 0)) BKb.out hb)
  clear hA0 hA1 hB0 hB1
  clear HB BKa BKb hb
  have HB := n0_
  have BKa := n1_
  have BKb := n2_
  clear n0_ n1_ n2_
  have hAa0 : ∀ o : Obj, (w6.alloc o).cell? ⟨w.heap.size, 0, none⟩ = some (.int .i64 s1) := fun o => (blk_cell (blk_alloc BKa.out o) 0).trans rfl
  have hAa1 : ∀ o : Obj, (w6.alloc o).cell? ⟨w.heap.size, 1, none⟩ = some (.slice A1 l1.length c1) := fun o => (blk_cell (blk_alloc BKa.out o) 1).trans rfl
  have hA0 : w6.cell? ⟨w.heap.size, 0, none⟩ = some (.int .i64 s1) := (blk_cell BKa.out 0).trans rfl
  have hA1 : w6.cell? ⟨w.heap.size, 1, none⟩ = some (.slice A1 l1.length c1) := (blk_cell BKa.out 1).trans rfl
  have hBa0 : ∀ o : Obj, (w6.alloc o).cell? ⟨(w.heap.size + 1), 0, none⟩ = some (.int .i64 s2) := fun o => (blk_cell (blk_alloc BKb.out o) 0).trans rfl
  have hBa1 : ∀ o : Obj, (w6.alloc o).cell? ⟨(w.heap.size + 1), 1, none⟩ = some (.slice A2 l2.length c2) := fun o => (blk_cell (blk_alloc BKb.out o) 1).trans rfl
  have hB0 : w6.cell? ⟨(w.heap.size + 1), 0, none⟩ = some (.int .i64 s2) := (blk_cell BKb.out 0).trans rfl
  have hB1 : w6.cell? ⟨(w.heap.size + 1), 1, none⟩ = some (.slice A2 l2.length c2) := (blk_cell BKb.out 1).trans rfl
  go_wp2_with fail
  (with_reducible refine (laws_toGraph_all.calls k s2 A2 c2 l2 false L2 _ (Kd.C_below HR2.out (below_alloc HB.out _)) HC2.out HL2.out).mono ?_)
  rintro e w7 ⟨A7, c7, rfl, ho, hle, hb⟩
  have C7 := Aside0.mk (Kd.R_reads' ho).2.2
  have E7 := Aside0.mk (Kd.R_reads' ho).2.1
  have F7 := Aside0.mk hle
  clear ho hle
  have BKx := Aside0.mk (show w7.heap[w6.heap.size]? = some (.cells #[.int .i64 s1, .slice A6 l1.length c6] 36 (0, 0)) from blk_below (g := w6.heap.size) (o := .cells #[.int .i64 s1, .slice A6 l1.length c6] 36 (0, 0)) (heap_alloc_new _ _) hb)
  have n0_ := Aside0.mk (below_step (below_alloc HB.out _) hb)
  have n1_ := Aside0.mk (blk_below (g := w.heap.size) (o := .cells #[.int .i64 s1, .slice A1 l1.length c1] 41 (0, 0)) (blk_alloc BKa.out _) hb)
  have n2_ := Aside0.mk (blk_below (g := (w.heap.size + 1)) (o := .cells #[.int .i64 s2, .slice A2 l2.length c2] 41 (0, 0)) (blk_alloc BKb.out _) hb)
  have n3_ := Aside0.mk (Kd.C_below (Kd.C_alloc C6.out _) hb)
  clear hAa0 hAa1 hA0 hA1 hBa0 hBa1 hB0 hB1
  clear HB BKa BKb C6 hb
  have HB := n0_
  have BKa := n1_
  have BKb := n2_
  have C6 := n3_
  clear n0_ n1_ n2_ n3_
  have hAa0 : ∀ o : Obj, (w7.alloc o).cell? ⟨w.heap.size, 0, none⟩ = some (.int .i64 s1) := fun o => (blk_cell (blk_alloc BKa.out o) 0).trans rfl
  have hAa1 : ∀ o : Obj, (w7.alloc o).cell? ⟨w.heap.size, 1, none⟩ = some (.slice A1 l1.length c1) := fun o => (blk_cell (blk_alloc BKa.out o) 1).trans rfl
  have hA0 : w7.cell? ⟨w.heap.size, 0, none⟩ = some (.int .i64 s1) := (blk_cell BKa.out 0).trans rfl
  have hA1 : w7.cell? ⟨w.heap.size, 1, none⟩ = some (.slice A1 l1.length c1) := (blk_cell BKa.out 1).trans rfl
  have hBa0 : ∀ o : Obj, (w7.alloc o).cell? ⟨(w.heap.size + 1), 0, none⟩ = some (.int .i64 s2) := fun o => (blk_cell (blk_alloc BKb.out o) 0).trans rfl
  have hBa1 : ∀ o : Obj, (w7.alloc o).cell? ⟨(w.heap.size + 1), 1, none⟩ = some (.slice A2 l2.length c2) := fun o => (blk_cell (blk_alloc BKb.out o) 1).trans rfl
  have hB0 : w7.cell? ⟨(w.heap.size + 1), 0, none⟩ = some (.int .i64 s2) := (blk_cell BKb.out 0).trans rfl
  have hB1 : w7.cell? ⟨(w.heap.size + 1), 1, none⟩ = some (.slice A2 l2.length c2) := (blk_cell BKb.out 1).trans rfl
  have hXa0 : ∀ o : Obj, (w7.alloc o).cell? ⟨w6.heap.size, 0, none⟩ = some (.int .i64 s1) := fun o => (blk_cell (blk_alloc BKx.out o) 0).trans rfl
  have hXa1 : ∀ o : Obj, (w7.alloc o).cell? ⟨w6.heap.size, 1, none⟩ = some (.slice A6 l1.length c6) := fun o => (blk_cell (blk_alloc BKx.out o) 1).trans rfl
  have hX0 : w7.cell? ⟨w6.heap.size, 0, none⟩ = some (.int .i64 s1) := (blk_cell BKx.out 0).trans rfl
  have hX1 : w7.cell? ⟨w6.heap.size, 1, none⟩ = some (.slice A6 l1.length c6) := (blk_cell BKx.out 1).trans rfl
  go_wp2_with fail
  (with_reducible refine (impl_SameGraph.calls k s1 A6 c6 l1 s2 A7 c7 l2 r _ (cut_row (Kd.C_alloc C6.out _) HTAKE1.out) (Nat.le_trans F6.out E6.out) (cut_row (Kd.C_alloc C7.out _) HTAKE2.out) (Nat.le_trans F7.out E7.out) HIMPL.out).mono ?_)
  rintro e w8 ⟨rfl, hb⟩
  have BKy := Aside0.mk (show w8.heap[w7.heap.size]? = some (.cells #[.int .i64 s2, .slice A7 l2.length c7] 36 (0, 0)) from blk_below (g := w7.heap.size) (o := .cells #[.int .i64 s2, .slice A7 l2.length c7] 36 (0, 0)) (heap_alloc_new _ _) hb)
  have n0_ := Aside0.mk (below_step (below_alloc HB.out _) hb)
  have n1_ := Aside0.mk (blk_below (g := w.heap.size) (o := .cells #[.int .i64 s1, .slice A1 l1.length c1] 41 (0, 0)) (blk_alloc BKa.out _) hb)
  have n2_ := Aside0.mk (blk_below (g := (w.heap.size + 1)) (o := .cells #[.int .i64 s2, .slice A2 l2.length c2] 41 (0, 0)) (blk_alloc BKb.out _) hb)
  have n3_ := Aside0.mk (Kd.C_below (Kd.C_alloc C6.out _) hb)
  have n4_ := Aside0.mk (Kd.C_below (Kd.C_alloc C7.out _) hb)
  have n5_ := Aside0.mk (blk_below (g := w6.heap.size) (o := .cells #[.int .i64 s1, .slice A6 l1.length c6] 36 (0, 0)) (blk_alloc BKx.out _) hb)
  clear hAa0 hAa1 hA0 hA1 hBa0 hBa1 hB0 hB1 hXa0 hXa1 hX0 hX1
  clear HB BKa BKb C6 C7 BKx hb
  have HB := n0_
  have BKa := n1_
  have BKb := n2_
  have C6 := n3_
  have C7 := n4_
  have BKx := n5_
  clear n0_ n1_ n2_ n3_ n4_ n5_
  have hA0 : w8.cell? ⟨w.heap.size, 0, none⟩ = some (.int .i64 s1) := (blk_cell BKa.out 0).trans rfl
  have hA1 : w8.cell? ⟨w.heap.size, 1, none⟩ = some (.slice A1 l1.length c1) := (blk_cell BKa.out 1).trans rfl
  have hB0 : w8.cell? ⟨(w.heap.size + 1), 0, none⟩ = some (.int .i64 s2) := (blk_cell BKb.out 0).trans rfl
  have hB1 : w8.cell? ⟨(w.heap.size + 1), 1, none⟩ = some (.slice A2 l2.length c2) := (blk_cell BKb.out 1).trans rfl
  have hX0 : w8.cell? ⟨w6.heap.size, 0, none⟩ = some (.int .i64 s1) := (blk_cell BKx.out 0).trans rfl
  have hX1 : w8.cell? ⟨w6.heap.size, 1, none⟩ = some (.slice A6 l1.length c6) := (blk_cell BKx.out 1).trans rfl
  have hY0 : w8.cell? ⟨w7.heap.size, 0, none⟩ = some (.int .i64 s2) := (blk_cell BKy.out 0).trans rfl
  have hY1 : w8.cell? ⟨w7.heap.size, 1, none⟩ = some (.slice A7 l2.length c7) := (blk_cell BKy.out 1).trans rfl
  go_wp2_with fail
  have n0_ := Aside0.mk (below_drew1 HB.out)
  have n1_ := Aside0.mk (blk_drew BKa.out)
  have n2_ := Aside0.mk (blk_drew BKb.out)
  have n3_ := Aside0.mk (Kd.C_drew C6.out)
  have n4_ := Aside0.mk (Kd.C_drew C7.out)
  have n5_ := Aside0.mk (blk_drew BKx.out)
  have n6_ := Aside0.mk (blk_drew BKy.out)
  clear hA0 hA1 hB0 hB1 hX0 hX1 hY0 hY1
  clear HB BKa BKb C6 C7 BKx BKy
  have HB := n0_
  have BKa := n1_
  have BKb := n2_
  have C6 := n3_
  have C7 := n4_
  have BKx := n5_
  have BKy := n6_
  clear n0_ n1_ n2_ n3_ n4_ n5_ n6_
  refine start_ (n := 5) (S := fun w' => w'.cell? ⟨w6.heap.size, 0, none⟩ = some (.int .i64 s1) ∧ w'.cell? ⟨w6.heap.size, 1, none⟩ = some (.slice A6 l1.length c6) ∧ w'.cell? ⟨w.heap.size, 0, none⟩ = some (.int .i64 s1) ∧ w'.cell? ⟨w.heap.size, 1, none⟩ = some (.slice A1 l1.length c1)) (ds := []) #[false, false, false, false, false] (by kernel_rfl) rfl rfl ⟨(blk_cell BKx.out 0).trans rfl, (blk_cell BKx.out 1).trans rfl, (blk_cell BKa.out 0).trans rfl, (blk_cell BKa.out 1).trans rfl⟩ (fun hHeld => ?_)
  generalize w8.drew = w10 at HB BKa BKb C6 C7 BKx BKy hHeld ⊢
  refine take_ (i := 0) (N := some 36) (v := ?_) (a' := ?_) #[true, false, false, false, false] rfl rfl (by kernel_rfl) (fun _ _ _ h => h) (Or.inl ⟨by rfl, ?_⟩) hHeld ?_ ?_
  rotate_left
  · rintro w' ⟨s0, s1, s2, s3⟩
    go_simp
    with_reducible rfl
  rotate_left
  · simp only [Act.put, List.setIfInBounds_toArray, List.set_cons_zero, List.set_cons_succ, i64_w, i32_w]
    rfl
  refine take_ (i := 1) (N := some 37) (v := ?_) (a' := ?_) #[true, true, false, false, false] rfl rfl (by kernel_rfl) (fun _ _ _ h => h) (Or.inl ⟨by rfl, ?_⟩) hHeld ?_ ?_
  rotate_left
  · rintro w' ⟨s0, s1, s2, s3⟩
    go_simp
    with_reducible rfl
  rotate_left
  · simp only [Act.put, List.setIfInBounds_toArray, List.set_cons_zero, List.set_cons_succ, i64_w, i32_w]
    rfl
  refine one_ (i := 2) (N := some 38) #[true, true, true, false, false] rfl rfl (by kernel_rfl) (by decide) (fun K hK => ?_)
  refine goes_ Try.func38 (by kernel_rfl) rfl #[.agg #[.int .i64 s1, .slice A1 l1.length c1], .bool false] (by rfl) rfl rfl (by (try simp only [List.map_toArray, List.map_cons, List.map_nil]); first | done | rfl) ?_
  (with_reducible refine (laws_toGraph_all.calls k s1 A1 c1 l1 false L1 _ (Kd.C_below HR1.out HB.out) HC1.out HL1.out).mono ?_)
  rintro e w11 ⟨A9w10, c9w10, rfl, ho, hle, hb⟩
  refine ⟨_, rfl, ?_⟩
  have Cn := Aside0.mk (Kd.R_reads' ho).2.2
  have En := Aside0.mk (Kd.R_reads' ho).2.1
  clear ho hle
  have n0_ := Aside0.mk (below_step HB.out hb)
  have n1_ := Aside0.mk (blk_below (g := w.heap.size) (o := .cells #[.int .i64 s1, .slice A1 l1.length c1] 41 (0, 0)) BKa.out hb)
  have n2_ := Aside0.mk (blk_below (g := (w.heap.size + 1)) (o := .cells #[.int .i64 s2, .slice A2 l2.length c2] 41 (0, 0)) BKb.out hb)
  have n3_ := Aside0.mk (Kd.C_below C6.out hb)
  have n4_ := Aside0.mk (Kd.C_below C7.out hb)
  have n5_ := Aside0.mk (blk_below (g := w6.heap.size) (o := .cells #[.int .i64 s1, .slice A6 l1.length c6] 36 (0, 0)) BKx.out hb)
  have n6_ := Aside0.mk (blk_below (g := w7.heap.size) (o := .cells #[.int .i64 s2, .slice A7 l2.length c7] 36 (0, 0)) BKy.out hb)
  clear HB BKa BKb C6 C7 BKx BKy hb
  have HB := n0_
  have BKa := n1_
  have BKb := n2_
  have C6 := n3_
  have C7 := n4_
  have BKx := n5_
  have BKy := n6_
  clear n0_ n1_ n2_ n3_ n4_ n5_ n6_
  refine hK.out _ _ ⟨(blk_cell BKx.out 0).trans rfl, (blk_cell BKx.out 1).trans rfl, (blk_cell BKa.out 0).trans rfl, (blk_cell BKa.out 1).trans rfl⟩ (fun hHeld => ?_)
  clear hK K
  refine norm_ (a' := ?_) ?_ ?_
  rotate_left
  · show Act.put _ (some 38) _ = _
    simp only [Act.put, List.setIfInBounds_toArray, List.set_cons_zero, List.set_cons_succ, i64_w, i32_w]
    rfl
  refine one_ (i := 3) (N := some 39) #[true, true, true, true, false] rfl rfl (by kernel_rfl) (by decide) (fun K hK => ?_)
  refine goes_ Try.func40 (by kernel_rfl) rfl #[.agg #[.int .i64 s1, .slice A6 l1.length c6], .agg #[.int .i64 s1, .slice A9w10 l1.length c9w10]] (by rfl) rfl rfl (by (try simp only [List.map_toArray, List.map_cons, List.map_nil]); first | done | rfl) ?_
  (with_reducible refine (laws_intactGraph_same.calls k s1 A6 c6 A9w10 c9w10 l1.length tr1 L1 _ C6.out E6.out Cn.out En.out F6.out HROOM1.out HSUM1.out HEQ1.out).mono ?_)
  rintro e w12 ⟨rfl, hb⟩
  refine ⟨_, rfl, ?_⟩
  have n0_ := Aside0.mk (below_step HB.out hb)
  have n1_ := Aside0.mk (blk_below (g := w.heap.size) (o := .cells #[.int .i64 s1, .slice A1 l1.length c1] 41 (0, 0)) BKa.out hb)
  have n2_ := Aside0.mk (blk_below (g := (w.heap.size + 1)) (o := .cells #[.int .i64 s2, .slice A2 l2.length c2] 41 (0, 0)) BKb.out hb)
  have n3_ := Aside0.mk (Kd.C_below C6.out hb)
  have n4_ := Aside0.mk (Kd.C_below C7.out hb)
  have n5_ := Aside0.mk (blk_below (g := w6.heap.size) (o := .cells #[.int .i64 s1, .slice A6 l1.length c6] 36 (0, 0)) BKx.out hb)
  have n6_ := Aside0.mk (blk_below (g := w7.heap.size) (o := .cells #[.int .i64 s2, .slice A7 l2.length c7] 36 (0, 0)) BKy.out hb)
  have n7_ := Aside0.mk (Kd.C_below Cn.out hb)
  clear HB BKa BKb C6 C7 BKx BKy Cn hb
  have HB := n0_
  have BKa := n1_
  have BKb := n2_
  have C6 := n3_
  have C7 := n4_
  have BKx := n5_
  have BKy := n6_
  have Cn := n7_
  clear n0_ n1_ n2_ n3_ n4_ n5_ n6_ n7_
  refine hK.out _ _ ⟨(blk_cell BKx.out 0).trans rfl, (blk_cell BKx.out 1).trans rfl, (blk_cell BKa.out 0).trans rfl, (blk_cell BKa.out 1).trans rfl⟩ (fun hHeld => ?_)
  clear hK K
  refine norm_ (a' := ?_) ?_ ?_
  rotate_left
  · show Act.put _ (some 39) _ = _
    simp only [Act.put, List.setIfInBounds_toArray, List.set_cons_zero, List.set_cons_succ, i64_w, i32_w]
    rfl
  clear Cn En
  refine pure_ (i := 4) (N := some 40) (v := ?_) (a' := ?_) #[true, true, true, true, true] rfl rfl (by kernel_rfl) (fun _ _ _ h => h) (Or.inl ⟨by rfl, ?_⟩) ?_ ?_
  rotate_left
  · intro w'
    go_simp
    with_reducible rfl
  rotate_left
  · simp only [Act.put, List.setIfInBounds_toArray, List.set_cons_zero, List.set_cons_succ, i64_w, i32_w]
    rfl
  refine done_ (by kernel_rfl) ?_
  clear hHeld
  have hA0 : w12.cell? ⟨w.heap.size, 0, none⟩ = some (.int .i64 s1) := (blk_cell BKa.out 0).trans rfl
  have hA1 : w12.cell? ⟨w.heap.size, 1, none⟩ = some (.slice A1 l1.length c1) := (blk_cell BKa.out 1).trans rfl
  have hB0 : w12.cell? ⟨(w.heap.size + 1), 0, none⟩ = some (.int .i64 s2) := (blk_cell BKb.out 0).trans rfl
  have hB1 : w12.cell? ⟨(w.heap.size + 1), 1, none⟩ = some (.slice A2 l2.length c2) := (blk_cell BKb.out 1).trans rfl
  have hX0 : w12.cell? ⟨w6.heap.size, 0, none⟩ = some (.int .i64 s1) := (blk_cell BKx.out 0).trans rfl
  have hX1 : w12.cell? ⟨w6.heap.size, 1, none⟩ = some (.slice A6 l1.length c6) := (blk_cell BKx.out 1).trans rfl
  have hY0 : w12.cell? ⟨w7.heap.size, 0, none⟩ = some (.int .i64 s2) := (blk_cell BKy.out 0).trans rfl
  have hY1 : w12.cell? ⟨w7.heap.size, 1, none⟩ = some (.slice A7 l2.length c7) := (blk_cell BKy.out 1).trans rfl
  go_wp2_with fail
  have n0_ := Aside0.mk (below_drew1 HB.out)
  have n1_ := Aside0.mk (blk_drew BKa.out)
  have n2_ := Aside0.mk (blk_drew BKb.out)
  have n3_ := Aside0.mk (Kd.C_drew C6.out)
  have n4_ := Aside0.mk (Kd.C_drew C7.out)
  have n5_ := Aside0.mk (blk_drew BKx.out)
  have n6_ := Aside0.mk (blk_drew BKy.out)
  clear hA0 hA1 hB0 hB1 hX0 hX1 hY0 hY1
  clear HB BKa BKb C6 C7 BKx BKy
  have HB := n0_
  have BKa := n1_
  have BKb := n2_
  have C6 := n3_
  have C7 := n4_
  have BKx := n5_
  have BKy := n6_
  clear n0_ n1_ n2_ n3_ n4_ n5_ n6_
  refine start_ (n := 5) (S := fun w' => w'.cell? ⟨w7.heap.size, 0, none⟩ = some (.int .i64 s2) ∧ w'.cell? ⟨w7.heap.size, 1, none⟩ = some (.slice A7 l2.length c7) ∧ w'.cell? ⟨(w.heap.size + 1), 0, none⟩ = some (.int .i64 s2) ∧ w'.cell? ⟨(w.heap.size + 1), 1, none⟩ = some (.slice A2 l2.length c2)) (ds := []) #[false, false, false, false, false] (by kernel_rfl) rfl rfl ⟨(blk_cell BKy.out 0).trans rfl, (blk_cell BKy.out 1).trans rfl, (blk_cell BKb.out 0).trans rfl, (blk_cell BKb.out 1).trans rfl⟩ (fun hHeld => ?_)
  generalize w12.drew = w13 at HB BKa BKb C6 C7 BKx BKy hHeld ⊢
  refine take_ (i := 0) (N := some 41) (v := ?_) (a' := ?_) #[true, false, false, false, false] rfl rfl (by kernel_rfl) (fun _ _ _ h => h) (Or.inl ⟨by rfl, ?_⟩) hHeld ?_ ?_
  rotate_left
  · rintro w' ⟨s0, s1, s2, s3⟩
    go_simp
    with_reducible rfl
  rotate_left
  · simp only [Act.put, List.setIfInBounds_toArray, List.set_cons_zero, List.set_cons_succ, i64_w, i32_w]
    rfl
  refine take_ (i := 1) (N := some 42) (v := ?_) (a' := ?_) #[true, true, false, false, false] rfl rfl (by kernel_rfl) (fun _ _ _ h => h) (Or.inl ⟨by rfl, ?_⟩) hHeld ?_ ?_
  rotate_left
  · rintro w' ⟨s0, s1, s2, s3⟩
    go_simp
    with_reducible rfl
  rotate_left
  · simp only [Act.put, List.setIfInBounds_toArray, List.set_cons_zero, List.set_cons_succ, i64_w, i32_w]
    rfl
  refine one_ (i := 2) (N := some 43) #[true, true, true, false, false] rfl rfl (by kernel_rfl) (by decide) (fun K hK => ?_)
  refine goes_ Try.func38 (by kernel_rfl) rfl #[.agg #[.int .i64 s2, .slice A2 l2.length c2], .bool false] (by rfl) rfl rfl (by (try simp only [List.map_toArray, List.map_cons, List.map_nil]); first | done | rfl) ?_
  (with_reducible refine (laws_toGraph_all.calls k s2 A2 c2 l2 false L2 _ (Kd.C_below HR2.out HB.out) HC2.out HL2.out).mono ?_)
  rintro e w14 ⟨A9w13, c9w13, rfl, ho, hle, hb⟩
  refine ⟨_, rfl, ?_⟩
  have Cn := Aside0.mk (Kd.R_reads' ho).2.2
  have En := Aside0.mk (Kd.R_reads' ho).2.1
  clear ho hle
  have n0_ := Aside0.mk (below_step HB.out hb)
  have n1_ := Aside0.mk (blk_below (g := w.heap.size) (o := .cells #[.int .i64 s1, .slice A1 l1.length c1] 41 (0, 0)) BKa.out hb)
  have n2_ := Aside0.mk (blk_below (g := (w.heap.size + 1)) (o := .cells #[.int .i64 s2, .slice A2 l2.length c2] 41 (0, 0)) BKb.out hb)
  have n3_ := Aside0.mk (Kd.C_below C6.out hb)
  have n4_ := Aside0.mk (Kd.C_below C7.out hb)
  have n5_ := Aside0.mk (blk_below (g := w6.heap.size) (o := .cells #[.int .i64 s1, .slice A6 l1.length c6] 36 (0, 0)) BKx.out hb)
  have n6_ := Aside0.mk (blk_below (g := w7.heap.size) (o := .cells #[.int .i64 s2, .slice A7 l2.length c7] 36 (0, 0)) BKy.out hb)
  clear HB BKa BKb C6 C7 BKx BKy hb
  have HB := n0_
  have BKa := n1_
  have BKb := n2_
  have C6 := n3_
  have C7 := n4_
  have BKx := n5_
  have BKy := n6_
  clear n0_ n1_ n2_ n3_ n4_ n5_ n6_
  refine hK.out _ _ ⟨(blk_cell BKy.out 0).trans rfl, (blk_cell BKy.out 1).trans rfl, (blk_cell BKb.out 0).trans rfl, (blk_cell BKb.out 1).trans rfl⟩ (fun hHeld => ?_)
  clear hK K
  refine norm_ (a' := ?_) ?_ ?_
  rotate_left
  · show Act.put _ (some 43) _ = _
    simp only [Act.put, List.setIfInBounds_toArray, List.set_cons_zero, List.set_cons_succ, i64_w, i32_w]
    rfl
  refine one_ (i := 3) (N := some 44) #[true, true, true, true, false] rfl rfl (by kernel_rfl) (by decide) (fun K hK => ?_)
  refine goes_ Try.func40 (by kernel_rfl) rfl #[.agg #[.int .i64 s2, .slice A7 l2.length c7], .agg #[.int .i64 s2, .slice A9w13 l2.length c9w13]] (by rfl) rfl rfl (by (try simp only [List.map_toArray, List.map_cons, List.map_nil]); first | done | rfl) ?_
  (with_reducible refine (laws_intactGraph_same.calls k s2 A7 c7 A9w13 c9w13 l2.length tr2 L2 _ C7.out E7.out Cn.out En.out F7.out HROOM2.out HSUM2.out HEQ2.out).mono ?_)
  rintro e w15 ⟨rfl, hb⟩
  refine ⟨_, rfl, ?_⟩
  have n0_ := Aside0.mk (below_step HB.out hb)
  have n1_ := Aside0.mk (blk_below (g := w.heap.size) (o := .cells #[.int .i64 s1, .slice A1 l1.length c1] 41 (0, 0)) BKa.out hb)
  have n2_ := Aside0.mk (blk_below (g := (w.heap.size + 1)) (o := .cells #[.int .i64 s2, .slice A2 l2.length c2] 41 (0, 0)) BKb.out hb)
  have n3_ := Aside0.mk (Kd.C_below C6.out hb)
  have n4_ := Aside0.mk (Kd.C_below C7.out hb)
  have n5_ := Aside0.mk (blk_below (g := w6.heap.size) (o := .cells #[.int .i64 s1, .slice A6 l1.length c6] 36 (0, 0)) BKx.out hb)
  have n6_ := Aside0.mk (blk_below (g := w7.heap.size) (o := .cells #[.int .i64 s2, .slice A7 l2.length c7] 36 (0, 0)) BKy.out hb)
  have n7_ := Aside0.mk (Kd.C_below Cn.out hb)
  clear HB BKa BKb C6 C7 BKx BKy Cn hb
  have HB := n0_
  have BKa := n1_
  have BKb := n2_
  have C6 := n3_
  have C7 := n4_
  have BKx := n5_
  have BKy := n6_
  have Cn := n7_
  clear n0_ n1_ n2_ n3_ n4_ n5_ n6_ n7_
  refine hK.out _ _ ⟨(blk_cell BKy.out 0).trans rfl, (blk_cell BKy.out 1).trans rfl, (blk_cell BKb.out 0).trans rfl, (blk_cell BKb.out 1).trans rfl⟩ (fun hHeld => ?_)
  clear hK K
  refine norm_ (a' := ?_) ?_ ?_
  rotate_left
  · show Act.put _ (some 44) _ = _
    simp only [Act.put, List.setIfInBounds_toArray, List.set_cons_zero, List.set_cons_succ, i64_w, i32_w]
    rfl
  clear Cn En
  refine pure_ (i := 4) (N := some 45) (v := ?_) (a' := ?_) #[true, true, true, true, true] rfl rfl (by kernel_rfl) (fun _ _ _ h => h) (Or.inl ⟨by rfl, ?_⟩) ?_ ?_
  rotate_left
  · intro w'
    go_simp
    with_reducible rfl
  rotate_left
  · simp only [Act.put, List.setIfInBounds_toArray, List.set_cons_zero, List.set_cons_succ, i64_w, i32_w]
    rfl
  refine done_ (by kernel_rfl) ?_
  clear hHeld
  have hA0 : w15.cell? ⟨w.heap.size, 0, none⟩ = some (.int .i64 s1) := (blk_cell BKa.out 0).trans rfl
  have hA1 : w15.cell? ⟨w.heap.size, 1, none⟩ = some (.slice A1 l1.length c1) := (blk_cell BKa.out 1).trans rfl
  have hB0 : w15.cell? ⟨(w.heap.size + 1), 0, none⟩ = some (.int .i64 s2) := (blk_cell BKb.out 0).trans rfl
  have hB1 : w15.cell? ⟨(w.heap.size + 1), 1, none⟩ = some (.slice A2 l2.length c2) := (blk_cell BKb.out 1).trans rfl
  have hX0 : w15.cell? ⟨w6.heap.size, 0, none⟩ = some (.int .i64 s1) := (blk_cell BKx.out 0).trans rfl
  have hX1 : w15.cell? ⟨w6.heap.size, 1, none⟩ = some (.slice A6 l1.length c6) := (blk_cell BKx.out 1).trans rfl
  have hY0 : w15.cell? ⟨w7.heap.size, 0, none⟩ = some (.int .i64 s2) := (blk_cell BKy.out 0).trans rfl
  have hY1 : w15.cell? ⟨w7.heap.size, 1, none⟩ = some (.slice A7 l2.length c7) := (blk_cell BKy.out 1).trans rfl
  go_wp2_with fail
  have n0_ := Aside0.mk (below_drew1 HB.out)
  have n1_ := Aside0.mk (blk_drew BKa.out)
  have n2_ := Aside0.mk (blk_drew BKb.out)
  have n3_ := Aside0.mk (Kd.C_drew C6.out)
  have n4_ := Aside0.mk (Kd.C_drew C7.out)
  have n5_ := Aside0.mk (blk_drew BKx.out)
  have n6_ := Aside0.mk (blk_drew BKy.out)
  clear hA0 hA1 hB0 hB1 hX0 hX1 hY0 hY1
  clear HB BKa BKb C6 C7 BKx BKy
  have HB := n0_
  have BKa := n1_
  have BKb := n2_
  have C6 := n3_
  have C7 := n4_
  have BKx := n5_
  have BKy := n6_
  clear n0_ n1_ n2_ n3_ n4_ n5_ n6_
  refine start_ (n := 6) (S := fun w' => w'.cell? ⟨w.heap.size, 0, none⟩ = some (.int .i64 s1) ∧ w'.cell? ⟨w.heap.size, 1, none⟩ = some (.slice A1 l1.length c1) ∧ w'.cell? ⟨(w.heap.size + 1), 0, none⟩ = some (.int .i64 s2) ∧ w'.cell? ⟨(w.heap.size + 1), 1, none⟩ = some (.slice A2 l2.length c2)) (ds := []) #[false, false, false, false, false, false] (by kernel_rfl) rfl rfl ⟨(blk_cell BKa.out 0).trans rfl, (blk_cell BKa.out 1).trans rfl, (blk_cell BKb.out 0).trans rfl, (blk_cell BKb.out 1).trans rfl⟩ (fun hHeld => ?_)
  generalize w15.drew = w16 at HB BKa BKb C6 C7 BKx BKy hHeld ⊢
  refine take_ (i := 0) (N := some 46) (v := ?_) (a' := ?_) #[true, false, false, false, false, false] rfl rfl (by kernel_rfl) (fun _ _ _ h => h) (Or.inl ⟨by rfl, ?_⟩) hHeld ?_ ?_
  rotate_left
  · rintro w' ⟨s0, s1, s2, s3⟩
    go_simp
    with_reducible rfl
  rotate_left
  · simp only [Act.put, List.setIfInBounds_toArray, List.set_cons_zero, List.set_cons_succ, i64_w, i32_w]
    rfl
  refine take_ (i := 2) (N := some 48) (v := ?_) (a' := ?_) #[true, false, true, false, false, false] rfl rfl (by kernel_rfl) (fun _ _ _ h => h) (Or.inl ⟨by rfl, ?_⟩) hHeld ?_ ?_
  rotate_left
  · rintro w' ⟨s0, s1, s2, s3⟩
    go_simp
    with_reducible rfl
  rotate_left
  · simp only [Act.put, List.setIfInBounds_toArray, List.set_cons_zero, List.set_cons_succ, i64_w, i32_w]
    rfl
  refine one_ (i := 1) (N := some 47) #[true, true, true, false, false, false] rfl rfl (by kernel_rfl) (by decide) (fun K hK => ?_)
  refine goes_ Try.func38 (by kernel_rfl) rfl #[.agg #[.int .i64 s1, .slice A1 l1.length c1], .bool true] (by rfl) rfl rfl (by (try simp only [List.map_toArray, List.map_cons, List.map_nil]); first | done | rfl) ?_
  (with_reducible refine (laws_toGraph.calls k s1 A1 c1 l1 true s1 l1 _ (Kd.C_below HR1.out HB.out) HC1.out HT1.out).mono ?_)
  rintro e w16a ⟨v_, rfl, ho, hb⟩
  obtain ⟨A1w16, c1w16, eo⟩ := Kd.R_slice ho
  subst eo
  refine ⟨_, rfl, ?_⟩
  have C1w16 := Aside0.mk (Kd.R_reads' ho).2.2
  have E1w16 := Aside0.mk (Kd.R_reads' ho).2.1
  clear ho
  have n0_ := Aside0.mk (below_step HB.out hb)
  have n1_ := Aside0.mk (blk_below (g := w.heap.size) (o := .cells #[.int .i64 s1, .slice A1 l1.length c1] 41 (0, 0)) BKa.out hb)
  have n2_ := Aside0.mk (blk_below (g := (w.heap.size + 1)) (o := .cells #[.int .i64 s2, .slice A2 l2.length c2] 41 (0, 0)) BKb.out hb)
  have n3_ := Aside0.mk (Kd.C_below C6.out hb)
  have n4_ := Aside0.mk (Kd.C_below C7.out hb)
  have n5_ := Aside0.mk (blk_below (g := w6.heap.size) (o := .cells #[.int .i64 s1, .slice A6 l1.length c6] 36 (0, 0)) BKx.out hb)
  have n6_ := Aside0.mk (blk_below (g := w7.heap.size) (o := .cells #[.int .i64 s2, .slice A7 l2.length c7] 36 (0, 0)) BKy.out hb)
  clear HB BKa BKb C6 C7 BKx BKy hb
  have HB := n0_
  have BKa := n1_
  have BKb := n2_
  have C6 := n3_
  have C7 := n4_
  have BKx := n5_
  have BKy := n6_
  clear n0_ n1_ n2_ n3_ n4_ n5_ n6_
  refine hK.out _ _ ⟨(blk_cell BKa.out 0).trans rfl, (blk_cell BKa.out 1).trans rfl, (blk_cell BKb.out 0).trans rfl, (blk_cell BKb.out 1).trans rfl⟩ (fun hHeld => ?_)
  clear hK K
  refine norm_ (a' := ?_) ?_ ?_
  rotate_left
  · show Act.put _ (some 47) _ = _
    simp only [Act.put, List.setIfInBounds_toArray, List.set_cons_zero, List.set_cons_succ, i64_w, i32_w]
    rfl
  refine one_ (i := 3) (N := some 49) #[true, true, true, true, false, false] rfl rfl (by kernel_rfl) (by decide) (fun K hK => ?_)
  refine goes_ Try.func38 (by kernel_rfl) rfl #[.agg #[.int .i64 s2, .slice A2 l2.length c2], .bool true] (by rfl) rfl rfl (by (try simp only [List.map_toArray, List.map_cons, List.map_nil]); first | done | rfl) ?_
  (with_reducible refine (laws_toGraph.calls k s2 A2 c2 l2 true s2 l2 _ (Kd.C_below HR2.out HB.out) HC2.out HT2.out).mono ?_)
  rintro e w16b ⟨v_, rfl, ho, hb⟩
  obtain ⟨A2w16, c2w16, eo⟩ := Kd.R_slice ho
  subst eo
  refine ⟨_, rfl, ?_⟩
  have C2w16 := Aside0.mk (Kd.R_reads' ho).2.2
  have E2w16 := Aside0.mk (Kd.R_reads' ho).2.1
  clear ho
  have n0_ := Aside0.mk (below_step HB.out hb)
  have n1_ := Aside0.mk (blk_below (g := w.heap.size) (o := .cells #[.int .i64 s1, .slice A1 l1.length c1] 41 (0, 0)) BKa.out hb)
  have n2_ := Aside0.mk (blk_below (g := (w.heap.size + 1)) (o := .cells #[.int .i64 s2, .slice A2 l2.length c2] 41 (0, 0)) BKb.out hb)
  have n3_ := Aside0.mk (Kd.C_below C6.out hb)
  have n4_ := Aside0.mk (Kd.C_below C7.out hb)
  have n5_ := Aside0.mk (blk_below (g := w6.heap.size) (o := .cells #[.int .i64 s1, .slice A6 l1.length c6] 36 (0, 0)) BKx.out hb)
  have n6_ := Aside0.mk (blk_below (g := w7.heap.size) (o := .cells #[.int .i64 s2, .slice A7 l2.length c7] 36 (0, 0)) BKy.out hb)
  have n7_ := Aside0.mk (Kd.C_below C1w16.out hb)
  clear HB BKa BKb C6 C7 BKx BKy C1w16 hb
  have HB := n0_
  have BKa := n1_
  have BKb := n2_
  have C6 := n3_
  have C7 := n4_
  have BKx := n5_
  have BKy := n6_
  have C1w16 := n7_
  clear n0_ n1_ n2_ n3_ n4_ n5_ n6_ n7_
  refine hK.out _ _ ⟨(blk_cell BKa.out 0).trans rfl, (blk_cell BKa.out 1).trans rfl, (blk_cell BKb.out 0).trans rfl, (blk_cell BKb.out 1).trans rfl⟩ (fun hHeld => ?_)
  clear hK K
  refine norm_ (a' := ?_) ?_ ?_
  rotate_left
  · show Act.put _ (some 49) _ = _
    simp only [Act.put, List.setIfInBounds_toArray, List.set_cons_zero, List.set_cons_succ, i64_w, i32_w]
    rfl
  refine one_ (i := 4) (N := some 50) #[true, true, true, true, true, false] rfl rfl (by kernel_rfl) (by decide) (fun K hK => ?_)
  refine goes_ Try.func39 (by kernel_rfl) rfl #[.agg #[.int .i64 s1, .slice A1w16 l1.length c1w16], .agg #[.int .i64 s2, .slice A2w16 l2.length c2w16]] (by rfl) rfl rfl (by (try simp only [List.map_toArray, List.map_cons, List.map_nil]); first | done | rfl) ?_
  (with_reducible refine (impl_SameGraph.calls k s1 A1w16 c1w16 l1 s2 A2w16 c2w16 l2 r _ C1w16.out E1w16.out C2w16.out E2w16.out HIMPL.out).mono ?_)
  rintro e w18 ⟨rfl, hb⟩
  refine ⟨_, rfl, ?_⟩
  have n0_ := Aside0.mk (below_step HB.out hb)
  have n1_ := Aside0.mk (blk_below (g := w.heap.size) (o := .cells #[.int .i64 s1, .slice A1 l1.length c1] 41 (0, 0)) BKa.out hb)
  have n2_ := Aside0.mk (blk_below (g := (w.heap.size + 1)) (o := .cells #[.int .i64 s2, .slice A2 l2.length c2] 41 (0, 0)) BKb.out hb)
  have n3_ := Aside0.mk (Kd.C_below C6.out hb)
  have n4_ := Aside0.mk (Kd.C_below C7.out hb)
  have n5_ := Aside0.mk (blk_below (g := w6.heap.size) (o := .cells #[.int .i64 s1, .slice A6 l1.length c6] 36 (0, 0)) BKx.out hb)
  have n6_ := Aside0.mk (blk_below (g := w7.heap.size) (o := .cells #[.int .i64 s2, .slice A7 l2.length c7] 36 (0, 0)) BKy.out hb)
  have n7_ := Aside0.mk (Kd.C_below C1w16.out hb)
  have n8_ := Aside0.mk (Kd.C_below C2w16.out hb)
  clear HB BKa BKb C6 C7 BKx BKy C1w16 C2w16 hb
  have HB := n0_
  have BKa := n1_
  have BKb := n2_
  have C6 := n3_
  have C7 := n4_
  have BKx := n5_
  have BKy := n6_
  have C1w16 := n7_
  have C2w16 := n8_
  clear n0_ n1_ n2_ n3_ n4_ n5_ n6_ n7_ n8_
  refine hK.out _ _ ⟨(blk_cell BKa.out 0).trans rfl, (blk_cell BKa.out 1).trans rfl, (blk_cell BKb.out 0).trans rfl, (blk_cell BKb.out 1).trans rfl⟩ (fun hHeld => ?_)
  clear hK K
  refine norm_ (a' := ?_) ?_ ?_
  rotate_left
  · show Act.put _ (some 50) _ = _
    simp only [Act.put, List.setIfInBounds_toArray, List.set_cons_zero, List.set_cons_succ, i64_w, i32_w]
    rfl
  clear C1w16 C2w16 E1w16 E2w16
  refine pure_ (i := 5) (N := some 10) (v := ?_) (a' := ?_) #[true, true, true, true, true, true] rfl rfl (by kernel_rfl) (fun _ _ _ h => h) (Or.inl ⟨by rfl, ?_⟩) ?_ ?_
  rotate_left
  · intro w'
    go_simp
    with_reducible rfl
  rotate_left
  · simp only [Act.put, List.setIfInBounds_toArray, List.set_cons_zero, List.set_cons_succ, i64_w, i32_w]
    rfl
  refine done_ (by kernel_rfl) ?_
  clear hHeld
  have hA0 : w18.cell? ⟨w.heap.size, 0, none⟩ = some (.int .i64 s1) := (blk_cell BKa.out 0).trans rfl
  have hA1 : w18.cell? ⟨w.heap.size, 1, none⟩ = some (.slice A1 l1.length c1) := (blk_cell BKa.out 1).trans rfl
  have hB0 : w18.cell? ⟨(w.heap.size + 1), 0, none⟩ = some (.int .i64 s2) := (blk_cell BKb.out 0).trans rfl
  have hB1 : w18.cell? ⟨(w.heap.size + 1), 1, none⟩ = some (.slice A2 l2.length c2) := (blk_cell BKb.out 1).trans rfl
  have hX0 : w18.cell? ⟨w6.heap.size, 0, none⟩ = some (.int .i64 s1) := (blk_cell BKx.out 0).trans rfl
  have hX1 : w18.cell? ⟨w6.heap.size, 1, none⟩ = some (.slice A6 l1.length c6) := (blk_cell BKx.out 1).trans rfl
  have hY0 : w18.cell? ⟨w7.heap.size, 0, none⟩ = some (.int .i64 s2) := (blk_cell BKy.out 0).trans rfl
  have hY1 : w18.cell? ⟨w7.heap.size, 1, none⟩ = some (.slice A7 l2.length c7) := (blk_cell BKy.out 1).trans rfl
  go_wp2_with fail
  go_ret
  exact ⟨by first | rfl | (simp; done) | (simp [*]; done), by repeat (first | (with_reducible first | exact HB.out | apply below_alloc | apply pw_below_drewN | apply below_drew1) | exact HB.out)⟩
set_option maxHeartbeats 8000000 in
set_option maxRecDepth 100000 in
theorem laws_FnExactSameGraph.big1 (s1 : Int) (A1 : Option Addr) (c1 : Nat) (l1 : List Int) (s2 : Int) (A2 : Option Addr) (c2 : Nat) (l2 : List Int) (left1 : Int) (w : World) (hr1 : Kd.C (Kd.int .i64) w A1 l1.length l1) (hc1 : l1.length ≤ c1) (hr2 : Kd.C (Kd.int .i64) w A2 l2.length l2) (hc2 : l2.length ≤ c2) (hsz1 : laws_szGraph.f s1 l1 1000000 = some left1) (hleft1 : left1 < 0) :
    Calls Try.prog 11 #[.agg #[.int .i64 s1, .slice A1 l1.length c1], .agg #[.int .i64 s2, .slice A2 l2.length c2]] w fun e w' => e = .returned (.bool true) ∧ Below w.heap.size w w' := by
  have hu1 := Try.underlying41
  have HR1 := Aside0.mk hr1
  have HC1 := Aside0.mk hc1
  have HSZ1 := Aside0.mk hsz1
  have HR2 := Aside0.mk hr2
  have HC2 := Aside0.mk hc2
  have hl1 : decide (left1 < 0) = true := decide_eq_true hleft1
  clear hr1 hc1 hr2 hc2 hsz1 hleft1
  have esz : ∀ o : Obj, (w.alloc o).heap.size = w.heap.size + 1 := fun o => by simp
  go_enter Try.func11, Try.ntmps11
  go_wp2_with fail
  (with_reducible refine (laws_szGraph.calls s1 A1 c1 l1 1000000 left1 _ (Kd.C_alloc (Kd.C_alloc HR1.out _) _) HC1.out HSZ1.out).mono ?_)
  rintro e w1 ⟨rfl, hb⟩
  have HB := Aside0.mk (below_step (below_alloc (below_alloc (Below.refl _ _) _) _) hb)
  clear hb
  go_wp2_with fail
  go_ret
  exact ⟨by first | rfl | (simp; done) | (simp [*]; done), by repeat (first | (with_reducible first | exact HB.out | apply below_alloc | apply pw_below_drewN | apply below_drew1) | exact HB.out)⟩
set_option maxHeartbeats 8000000 in
set_option maxRecDepth 100000 in
theorem laws_FnExactSameGraph.big2 (s1 : Int) (A1 : Option Addr) (c1 : Nat) (l1 : List Int) (s2 : Int) (A2 : Option Addr) (c2 : Nat) (l2 : List Int) (left1 : Int) (w : World) (hr1 : Kd.C (Kd.int .i64) w A1 l1.length l1) (hc1 : l1.length ≤ c1) (hr2 : Kd.C (Kd.int .i64) w A2 l2.length l2) (hc2 : l2.length ≤ c2) (hsz1 : laws_szGraph.f s1 l1 1000000 = some left1) (left2 : Int) (hsz2 : laws_szGraph.f s2 l2 left1 = some left2) (hleft1 : ¬ left1 < 0) (hleft2 : left2 < 0) :
    Calls Try.prog 11 #[.agg #[.int .i64 s1, .slice A1 l1.length c1], .agg #[.int .i64 s2, .slice A2 l2.length c2]] w fun e w' => e = .returned (.bool true) ∧ Below w.heap.size w w' := by
  have hu1 := Try.underlying41
  have HR1 := Aside0.mk hr1
  have HC1 := Aside0.mk hc1
  have HSZ1 := Aside0.mk hsz1
  have HR2 := Aside0.mk hr2
  have HC2 := Aside0.mk hc2
  have HSZ2 := Aside0.mk hsz2
  have hl1 : decide (left1 < 0) = false := decide_eq_false hleft1
  have hl2 : decide (left2 < 0) = true := decide_eq_true hleft2
  clear hr1 hc1 hr2 hc2 hsz1 hsz2 hleft1 hleft2
  have esz : ∀ o : Obj, (w.alloc o).heap.size = w.heap.size + 1 := fun o => by simp
  go_enter Try.func11, Try.ntmps11
  go_wp2_with fail
  (with_reducible refine (laws_szGraph.calls s1 A1 c1 l1 1000000 left1 _ (Kd.C_alloc (Kd.C_alloc HR1.out _) _) HC1.out HSZ1.out).mono ?_)
  rintro e w1 ⟨rfl, hb⟩
  have HB := Aside0.mk (below_step (below_alloc (below_alloc (Below.refl _ _) _) _) hb)
  have BKb := Aside0.mk (show w1.heap[w.heap.size + 1]? = some (.cells #[.int .i64 s2, .slice A2 l2.length c2] 41 (0, 0)) from blk_below (g := w.heap.size + 1) (o := .cells #[.int .i64 s2, .slice A2 l2.length c2] 41 (0, 0)) (by have h_ := heap_alloc_new (w.alloc (.cells #[.int .i64 s1, .slice A1 l1.length c1] 41 (0, 0))) (.cells #[.int .i64 s2, .slice A2 l2.length c2] 41 (0, 0)); rw [esz] at h_; exact h_) hb)
  clear hb
  have hB0 : w1.cell? ⟨(w.heap.size + 1), 0, none⟩ = some (.int .i64 s2) := (blk_cell BKb.out 0).trans rfl
  have hB1 : w1.cell? ⟨(w.heap.size + 1), 1, none⟩ = some (.slice A2 l2.length c2) := (blk_cell BKb.out 1).trans rfl
  go_wp2_with fail
  (with_reducible refine (laws_szGraph.calls s2 A2 c2 l2 left1 left2 _ (Kd.C_below HR2.out HB.out) HC2.out HSZ2.out).mono ?_)
  rintro e w2 ⟨rfl, hb⟩
  have HE := Aside0.mk (below_step HB.out hb)
  clear hb HB
  have HB := HE
  go_wp2_with fail
  go_ret
  exact ⟨by first | rfl | (simp; done) | (simp [*]; done), by repeat (first | (with_reducible first | exact HB.out | apply below_alloc | apply pw_below_drewN | apply below_drew1) | exact HB.out)⟩
/-- What is left to show: both functions give one answer. -/
def laws_FnExactSameGraph.Same : Prop := ∀ (s1 : Int) (l1 : List Int) (s2 : Int) (l2 : List Int), l1.length ≤ 1000000 → l2.length ≤ 1000000 → ∃ (k : Nat) (r : Bool), spec_SameGraph.f k s1 l1 s2 l2 = some r ∧ impl_SameGraph.f k s1 l1 s2 l2 = some r
theorem sz_more (s : Int) (l : List Int) (a : Int) (h0 : 0 ≤ a) (h1 : a ≤ 1000000) (h : l.length ≤ 140737488351232) : ∃ left, laws_szGraph.f s l a = some left ∧ (¬ left < 0 → l.length ≤ 1000000) := by
  unfold laws_szGraph.f laws_szIntS.f
  rw [wrap_near _ (by omega) (by omega)]
  by_cases hb : a - (l.length : Int) < 0
  · rw [if_pos hb]
    exact ⟨-1, by simp, fun hn => absurd (by omega) hn⟩
  · rw [if_neg hb]
    simp only [Option.bind_some]
    rw [if_neg hb]
    exact ⟨_, rfl, fun _ => by omega⟩
theorem sz_first (s : Int) (l : List Int) (left : Int) (h : laws_szGraph.f s l 1000000 = some left) (hl : l.length ≤ 140737488351232) (h0 : ¬ left < 0) : left ≤ 1000000 := by
  unfold laws_szGraph.f laws_szIntS.f at h
  rw [wrap_near _ (by omega) (by omega)] at h
  by_cases hb : (1000000 : Int) - (l.length : Int) < 0
  · rw [if_pos hb] at h
    have h' : (-1 : Int) = left := by simpa using h
    omega
  · rw [if_neg hb] at h
    simp only [Option.bind_some] at h
    rw [if_neg hb] at h
    have h' := Option.some.inj h
    omega
theorem laws_FnExactSameGraph.walk (P : laws_FnExactSameGraph.Same) (s1 : Int) (A1 : Option Addr) (c1 : Nat) (l1 : List Int) (s2 : Int) (A2 : Option Addr) (c2 : Nat) (l2 : List Int) (w : World) (hr1 : Kd.C (Kd.int .i64) w A1 l1.length l1) (hc1 : l1.length ≤ c1) (hlen1 : l1.length * 8 ≤ 140737488351232) (hr2 : Kd.C (Kd.int .i64) w A2 l2.length l2) (hc2 : l2.length ≤ c2) (hlen2 : l2.length * 8 ≤ 140737488351232) :
    Calls Try.prog 11 #[.agg #[.int .i64 s1, .slice A1 l1.length c1], .agg #[.int .i64 s2, .slice A2 l2.length c2]] w fun e w' => e = .returned (.bool true) ∧ Below w.heap.size w w' := by
  obtain ⟨left1, hsz1, hm1, _⟩ := sz_graph s1 l1 (by omega)
  by_cases hb1 : left1 < 0
  · exact laws_FnExactSameGraph.big1 s1 A1 c1 l1 s2 A2 c2 l2 left1 w hr1 hc1 hr2 hc2 hsz1 hb1
  · obtain ⟨left2, hsz2, hm2⟩ := sz_more s2 l2 left1 (by omega) (sz_first s1 l1 left1 hsz1 (by omega) hb1) (by omega)
    by_cases hb2 : left2 < 0
    · exact laws_FnExactSameGraph.big2 s1 A1 c1 l1 s2 A2 c2 l2 left1 w hr1 hc1 hr2 hc2 hsz1 left2 hsz2 hb1 hb2
    · have g1 := hm1 hb1
      have g2 := hm2 hb2
      obtain ⟨k, r, h1, h2⟩ := P s1 l1 s2 l2 g1 g2
      obtain ⟨tr1, L1, a1, a2, a3, a4, a5, a6⟩ := copy_facts s1 l1 g1 (l1.length * 4 + l2.length * 4 + 100 + k) (by omega)
      obtain ⟨tr2, L2, b1, b2, b3, b4, b5, b6⟩ := copy_facts s2 l2 g2 (l1.length * 4 + l2.length * 4 + 100 + k) (by omega)
      exact laws_FnExactSameGraph.small s1 A1 c1 l1 s2 A2 c2 l2 (l1.length * 4 + l2.length * 4 + 100 + k) left1 left2 tr1 tr2 L1 L2 r w hr1 hc1 hr2 hc2 hsz1 hsz2 hb1 hb2 a1 a2 a3 a4 a5 a6 b1 b2 b3 b4 b5 b6 (at_rounds (fun j => spec_SameGraph.mono s1 l1 s2 l2 j) (by omega) h1) (at_rounds (fun j => impl_SameGraph.mono s1 l1 s2 l2 j) (by omega) h2)

end Go.Proofs.Ytnnhnbpgabbflaa.Q
