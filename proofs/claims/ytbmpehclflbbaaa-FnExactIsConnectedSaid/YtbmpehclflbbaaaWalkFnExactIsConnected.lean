/- Made by a program of this session (wip/tools/mklaw.py): the walk of the law FnExactIsConnected, out of what the two functions give; no condition beside that. -/
import Derived.Test.YtbmpehclflbbaaaXLaw
import Derived.Test.YtbmpehclflbbaaaCopies
import Derived.Test.YtbmpehclflbbaaaQx0
import Derived.Test.YtbmpehclflbbaaaQx1
import Derived.Test.YtbmpehclflbbaaaQx3
import Derived.Test.YtbmpehclflbbaaaQx5
import Derived.Test.YtbmpehclflbbaaaQx7
import Derived.Test.YtbmpehclflbbaaaQx24
import Derived.Test.YtbmpehclflbbaaaQx27
namespace Go.Proofs.Ytbmpehclflbbaaa.Q
open Go.RowKit Go.Proofs.YtbmpehclflbbaaaW.PrintWords Go.Proofs.YtbmpehclflbbaaaW.PrintLast Go.Proofs.YtbmpehclflbbaaaW.PrintMore Go.Proofs.Ytbmpehclflbbaaa.Pure
attribute [local go_sem] max2_int min2_int max_two min_two max_three min_three max_four min_four
set_option linter.unusedVariables false
set_option linter.unusedSimpArgs false

set_option maxHeartbeats 8000000 in
set_option maxRecDepth 100000 in
theorem laws_FnExactIsConnected.small (s : Int) (A : Option Addr) (c : Nat) (l : List Int) (k : Nat) (left tr : Int) (L : List Int) (r : Bool) (w : World) (hr : Kd.C (Kd.int .i64) w A l.length l) (hc : l.length ≤ c)
    (hsz : laws_szGraph.f s l 1000000 = some left) (hleft : ¬ left < 0) (hL : laws_toIntS_all.f k l false = some L) (hT : laws_toGraph.f k s l true = some (s, l)) (htake : L.take l.length = l) (hroom : laws_roomBehind.f (l.length : Int) = some tr)
    (hsum : wrap64 ((l.length : Int) + tr) = (L.length : Int)) (heq : laws_eqIntS.f k L L = some true) (hspec : spec_IsConnected.f k s l = some r) (himpl : impl_IsConnected.f k s l = some r) :
    Calls Try.prog 9 #[.agg #[.int .i64 s, .slice A l.length c]] w fun e w' => e = .returned (.bool true) ∧ Below w.heap.size w w' := by
  have hu1 := Try.underlying24
  have hu2 := Try.underlying27
  have HR := Aside0.mk hr
  have HC := Aside0.mk hc
  have HSZ := Aside0.mk hsz
  have HL := Aside0.mk hL
  have HT := Aside0.mk hT
  have HTAKE := Aside0.mk htake
  have HROOM := Aside0.mk hroom
  have HSUM := Aside0.mk hsum
  have HEQ := Aside0.mk heq
  have HSPEC := Aside0.mk hspec
  have HIMPL := Aside0.mk himpl
  have hl0 : decide (left < 0) = false := decide_eq_false hleft
  have hrr : (r != r) = false := by simp
  clear hr hc hsz hleft hL hT htake hroom hsum heq hspec himpl
  go_enter Try.func9, Try.ntmps9
  go_wp2_with fail
  (with_reducible refine (laws_szGraph.calls s A c l 1000000 left _ (Kd.C_alloc HR.out _) HC.out HSZ.out).mono ?_)
  rintro e w1 ⟨rfl, hb⟩
  have HB := Aside0.mk (below_step (below_alloc (Below.refl _ _) _) hb)
  have BKa := Aside0.mk (show w1.heap[w.heap.size]? = some (.cells #[.int .i64 s, .slice A l.length c] 24 (0, 0)) from blk_below (g := w.heap.size) (o := .cells #[.int .i64 s, .slice A l.length c] 24 (0, 0)) (heap_alloc_new _ _) hb)
  clear hb
  have hA0 : w1.cell? ⟨w.heap.size, 0, none⟩ = some (.int .i64 s) := (blk_cell BKa.out 0).trans rfl
  have hA1 : w1.cell? ⟨w.heap.size, 1, none⟩ = some (.slice A l.length c) := (blk_cell BKa.out 1).trans rfl
  go_wp2_with fail
  (with_reducible refine (laws_toGraph_all.calls k s A c l false L _ (Kd.C_below HR.out HB.out) HC.out HL.out).mono ?_)
  rintro e w2 ⟨A2, c2, rfl, ho, hle, hb⟩
  have C2 := Aside0.mk (cut_row (Kd.R_reads' ho).2.2 HTAKE.out)
  have E2 := Aside0.mk (Nat.le_trans hle (Kd.R_reads' ho).2.1)
  clear ho hle
  have n0_ := Aside0.mk (below_step HB.out hb)
  have n1_ := Aside0.mk (blk_below (g := w.heap.size) (o := .cells #[.int .i64 s, .slice A l.length c] 24 (0, 0)) BKa.out hb)
  clear HB BKa hA0 hA1
  have HB := n0_
  have BKa := n1_
  clear n0_ n1_
  clear hb
  have hA0 : w2.cell? ⟨w.heap.size, 0, none⟩ = some (.int .i64 s) := (blk_cell BKa.out 0).trans rfl
  have hA1 : w2.cell? ⟨w.heap.size, 1, none⟩ = some (.slice A l.length c) := (blk_cell BKa.out 1).trans rfl
  go_wp2_with fail
  (with_reducible refine (spec_IsConnected.calls k s A2 c2 l r _ (C2.out) E2.out HSPEC.out).mono ?_)
  rintro e w3 ⟨rfl, hb⟩
  clear C2 E2
  have n0_ := Aside0.mk (below_step HB.out hb)
  have n1_ := Aside0.mk (blk_below (g := w.heap.size) (o := .cells #[.int .i64 s, .slice A l.length c] 24 (0, 0)) BKa.out hb)
  clear HB BKa hA0 hA1
  have HB := n0_
  have BKa := n1_
  clear n0_ n1_
  clear hb
  have hA0 : w3.cell? ⟨w.heap.size, 0, none⟩ = some (.int .i64 s) := (blk_cell BKa.out 0).trans rfl
  have hA1 : w3.cell? ⟨w.heap.size, 1, none⟩ = some (.slice A l.length c) := (blk_cell BKa.out 1).trans rfl
  go_wp2_with fail
  (with_reducible refine (laws_toGraph_all.calls k s A c l false L _ (Kd.C_below HR.out HB.out) HC.out HL.out).mono ?_)
  rintro e w4 ⟨A4, c4, rfl, ho, hle, hb⟩
  have C4 := Aside0.mk (Kd.R_reads' ho).2.2
  have E4 := Aside0.mk (Kd.R_reads' ho).2.1
  have F4 := Aside0.mk hle
  clear ho hle
  have n0_ := Aside0.mk (below_step HB.out hb)
  have n1_ := Aside0.mk (blk_below (g := w.heap.size) (o := .cells #[.int .i64 s, .slice A l.length c] 24 (0, 0)) BKa.out hb)
  clear HB BKa hA0 hA1
  have HB := n0_
  have BKa := n1_
  clear n0_ n1_
  clear hb
  have hA0 : w4.cell? ⟨w.heap.size, 0, none⟩ = some (.int .i64 s) := (blk_cell BKa.out 0).trans rfl
  have hA1 : w4.cell? ⟨w.heap.size, 1, none⟩ = some (.slice A l.length c) := (blk_cell BKa.out 1).trans rfl
  go_wp2_with fail
  (with_reducible refine (impl_IsConnected.calls k s A4 c4 l r _ (cut_row (by (repeat (first | exact C4.out | (with_reducible refine Kd.C_alloc ?_ _) | (with_reducible refine Kd.C_drewN ?_ _) | (with_reducible refine Kd.C_drew ?_)))) HTAKE.out) (Nat.le_trans F4.out E4.out) HIMPL.out).mono ?_)
  rintro e w5 ⟨rfl, hb⟩
  have BKx := Aside0.mk (show w5.heap[w4.heap.size]? = some (.cells #[.int .i64 s, .slice A4 l.length c4] 27 (0, 0)) from blk_below (g := w4.heap.size) (o := .cells #[.int .i64 s, .slice A4 l.length c4] 27 (0, 0)) (heap_alloc_new _ _) hb)
  have n0_ := Aside0.mk (below_step (below_alloc HB.out _) hb)
  have n1_ := Aside0.mk (blk_below (g := w.heap.size) (o := .cells #[.int .i64 s, .slice A l.length c] 24 (0, 0)) (blk_alloc BKa.out _) hb)
  have n2_ := Aside0.mk (Kd.C_below (Kd.C_alloc C4.out _) hb)
  clear HB BKa hA0 hA1 C4 hb
  have HB := n0_
  have BKa := n1_
  have C4 := n2_
  clear n0_ n1_ n2_
  have hA0 : w5.cell? ⟨w.heap.size, 0, none⟩ = some (.int .i64 s) := (blk_cell BKa.out 0).trans rfl
  have hA1 : w5.cell? ⟨w.heap.size, 1, none⟩ = some (.slice A l.length c) := (blk_cell BKa.out 1).trans rfl
  have hX0 : w5.cell? ⟨w4.heap.size, 0, none⟩ = some (.int .i64 s) := (blk_cell BKx.out 0).trans rfl
  have hX1 : w5.cell? ⟨w4.heap.size, 1, none⟩ = some (.slice A4 l.length c4) := (blk_cell BKx.out 1).trans rfl
  go_wp2_with fail
  have n0_ := Aside0.mk (below_drew1 HB.out)
  have n1_ := Aside0.mk (blk_drew BKa.out)
  have n2_ := Aside0.mk (Kd.C_drew C4.out)
  have n3_ := Aside0.mk (blk_drew BKx.out)
  clear HB BKa C4 BKx hA0 hA1 hX0 hX1
  have HB := n0_
  have BKa := n1_
  have C4 := n2_
  have BKx := n3_
  clear n0_ n1_ n2_ n3_
  refine start_ (n := 5) (S := fun w' => w'.cell? ⟨w4.heap.size, 0, none⟩ = some (.int .i64 s) ∧ w'.cell? ⟨w4.heap.size, 1, none⟩ = some (.slice A4 l.length c4) ∧ w'.cell? ⟨w.heap.size, 0, none⟩ = some (.int .i64 s) ∧ w'.cell? ⟨w.heap.size, 1, none⟩ = some (.slice A l.length c)) (ds := []) #[false, false, false, false, false] (by kernel_rfl) rfl rfl ⟨(blk_cell BKx.out 0).trans rfl, (blk_cell BKx.out 1).trans rfl, (blk_cell BKa.out 0).trans rfl, (blk_cell BKa.out 1).trans rfl⟩ (fun hHeld => ?_)
  generalize w5.drew = w6 at HB BKa C4 BKx hHeld ⊢
  refine take_ (i := 0) (N := some 23) (v := ?_) (a' := ?_) #[true, false, false, false, false] rfl rfl (by kernel_rfl) (fun _ _ _ h => h) (Or.inl ⟨by rfl, ?_⟩) hHeld ?_ ?_
  rotate_left
  · rintro w' ⟨s0, s1, s2, s3⟩
    go_simp
    with_reducible rfl
  rotate_left
  · simp only [Act.put, List.setIfInBounds_toArray, List.set_cons_zero, List.set_cons_succ, i64_w, i32_w]
    rfl
  refine take_ (i := 1) (N := some 24) (v := ?_) (a' := ?_) #[true, true, false, false, false] rfl rfl (by kernel_rfl) (fun _ _ _ h => h) (Or.inl ⟨by rfl, ?_⟩) hHeld ?_ ?_
  rotate_left
  · rintro w' ⟨s0, s1, s2, s3⟩
    go_simp
    with_reducible rfl
  rotate_left
  · simp only [Act.put, List.setIfInBounds_toArray, List.set_cons_zero, List.set_cons_succ, i64_w, i32_w]
    rfl
  refine one_ (i := 2) (N := some 25) #[true, true, true, false, false] rfl rfl (by kernel_rfl) (by decide) (fun K hK => ?_)
  refine goes_ Try.func12 (by kernel_rfl) rfl #[.agg #[.int .i64 s, .slice A l.length c], .bool false] (by rfl) rfl rfl (by (try simp only [List.map_toArray, List.map_cons, List.map_nil]); first | done | rfl) ?_
  (with_reducible refine (laws_toGraph_all.calls k s A c l false L _ (Kd.C_below HR.out HB.out) HC.out HL.out).mono ?_)
  rintro e w7 ⟨A7, c7, rfl, ho, hle, hb⟩
  refine ⟨_, rfl, ?_⟩
  have C7 := Aside0.mk (Kd.R_reads' ho).2.2
  have E7 := Aside0.mk (Kd.R_reads' ho).2.1
  clear ho
  have n0_ := Aside0.mk (below_step HB.out hb)
  have n1_ := Aside0.mk (blk_below (g := w.heap.size) (o := .cells #[.int .i64 s, .slice A l.length c] 24 (0, 0)) BKa.out hb)
  have n2_ := Aside0.mk (Kd.C_below C4.out hb)
  have n3_ := Aside0.mk (blk_below (g := w4.heap.size) (o := .cells #[.int .i64 s, .slice A4 l.length c4] 27 (0, 0)) BKx.out hb)
  clear HB BKa C4 BKx hb
  have HB := n0_
  have BKa := n1_
  have C4 := n2_
  have BKx := n3_
  clear n0_ n1_ n2_ n3_
  refine hK.out _ _ ⟨(blk_cell BKx.out 0).trans rfl, (blk_cell BKx.out 1).trans rfl, (blk_cell BKa.out 0).trans rfl, (blk_cell BKa.out 1).trans rfl⟩ (fun hHeld => ?_)
  clear hK K
  refine norm_ (a' := ?_) ?_ ?_
  rotate_left
  · show Act.put _ (some 25) _ = _
    simp only [Act.put, List.setIfInBounds_toArray, List.set_cons_zero, List.set_cons_succ, i64_w, i32_w]
    rfl
  refine one_ (i := 3) (N := some 26) #[true, true, true, true, false] rfl rfl (by kernel_rfl) (by decide) (fun K hK => ?_)
  refine goes_ Try.func15 (by kernel_rfl) rfl #[.agg #[.int .i64 s, .slice A4 l.length c4], .agg #[.int .i64 s, .slice A7 l.length c7]] (by rfl) rfl rfl (by (try simp only [List.map_toArray, List.map_cons, List.map_nil]); first | done | rfl) ?_
  (with_reducible refine (laws_intactGraph_same.calls k s A4 c4 A7 c7 l.length tr L _ C4.out E4.out C7.out E7.out F4.out HROOM.out HSUM.out HEQ.out).mono ?_)
  rintro e w8 ⟨rfl, hb⟩
  refine ⟨_, rfl, ?_⟩
  clear C7 E7
  have n0_ := Aside0.mk (below_step HB.out hb)
  have n1_ := Aside0.mk (blk_below (g := w.heap.size) (o := .cells #[.int .i64 s, .slice A l.length c] 24 (0, 0)) BKa.out hb)
  have n2_ := Aside0.mk (Kd.C_below C4.out hb)
  have n3_ := Aside0.mk (blk_below (g := w4.heap.size) (o := .cells #[.int .i64 s, .slice A4 l.length c4] 27 (0, 0)) BKx.out hb)
  clear HB BKa C4 BKx hb
  have HB := n0_
  have BKa := n1_
  have C4 := n2_
  have BKx := n3_
  clear n0_ n1_ n2_ n3_
  refine hK.out _ _ ⟨(blk_cell BKx.out 0).trans rfl, (blk_cell BKx.out 1).trans rfl, (blk_cell BKa.out 0).trans rfl, (blk_cell BKa.out 1).trans rfl⟩ (fun hHeld => ?_)
  clear hK K
  refine norm_ (a' := ?_) ?_ ?_
  rotate_left
  · show Act.put _ (some 26) _ = _
    simp only [Act.put, List.setIfInBounds_toArray, List.set_cons_zero, List.set_cons_succ, i64_w, i32_w]
    rfl
  refine pure_ (i := 4) (N := some 27) (v := ?_) (a' := ?_) #[true, true, true, true, true] rfl rfl (by kernel_rfl) (fun _ _ _ h => h) (Or.inl ⟨by rfl, ?_⟩) ?_ ?_
  rotate_left
  · intro w'
    go_simp
    with_reducible rfl
  rotate_left
  · simp only [Act.put, List.setIfInBounds_toArray, List.set_cons_zero, List.set_cons_succ, i64_w, i32_w]
    rfl
  refine done_ (by kernel_rfl) ?_
  clear C4 E4 F4 BKx hHeld
  have hA0 : w8.cell? ⟨w.heap.size, 0, none⟩ = some (.int .i64 s) := (blk_cell BKa.out 0).trans rfl
  have hA1 : w8.cell? ⟨w.heap.size, 1, none⟩ = some (.slice A l.length c) := (blk_cell BKa.out 1).trans rfl
  go_wp2_with fail
  (with_reducible refine (laws_toGraph.calls k s A c l true s l _ (Kd.C_below HR.out HB.out) HC.out HT.out).mono ?_)
  rintro e w9 ⟨v9, rfl, ho, hb⟩
  obtain ⟨A9, c9, eo⟩ := Kd.R_slice ho
  subst eo
  have C9 := Aside0.mk (Kd.R_reads' ho).2.2
  have E9 := Aside0.mk (Kd.R_reads' ho).2.1
  clear ho
  have n0_ := Aside0.mk (below_step HB.out hb)
  have n1_ := Aside0.mk (blk_below (g := w.heap.size) (o := .cells #[.int .i64 s, .slice A l.length c] 24 (0, 0)) BKa.out hb)
  clear HB BKa hA0 hA1
  have HB := n0_
  have BKa := n1_
  clear n0_ n1_
  clear hb
  have hA0 : w9.cell? ⟨w.heap.size, 0, none⟩ = some (.int .i64 s) := (blk_cell BKa.out 0).trans rfl
  have hA1 : w9.cell? ⟨w.heap.size, 1, none⟩ = some (.slice A l.length c) := (blk_cell BKa.out 1).trans rfl
  go_wp2_with fail
  (with_reducible refine (impl_IsConnected.calls k s A9 c9 l r _ C9.out E9.out HIMPL.out).mono ?_)
  rintro e w10 ⟨rfl, hb⟩
  have HE := Aside0.mk (below_step HB.out hb)
  clear hb hA0 hA1
  go_wp2_with fail
  go_ret
  exact ⟨by first | rfl | (simp; done) | (simp [*]; done), by repeat (first | (with_reducible first | exact HE.out | apply below_alloc | apply pw_below_drewN | apply below_drew1) | exact HE.out)⟩
set_option maxHeartbeats 8000000 in
set_option maxRecDepth 100000 in
theorem laws_FnExactIsConnected.big (s : Int) (A : Option Addr) (c : Nat) (l : List Int) (left : Int) (w : World) (hr : Kd.C (Kd.int .i64) w A l.length l) (hc : l.length ≤ c) (hsz : laws_szGraph.f s l 1000000 = some left) (hleft : left < 0) :
    Calls Try.prog 9 #[.agg #[.int .i64 s, .slice A l.length c]] w fun e w' => e = .returned (.bool true) ∧ Below w.heap.size w w' := by
  have hu1 := Try.underlying24
  have HR := Aside0.mk hr
  have HC := Aside0.mk hc
  have HSZ := Aside0.mk hsz
  have hl0 : decide (left < 0) = true := decide_eq_true hleft
  clear hr hc hsz hleft
  go_enter Try.func9, Try.ntmps9
  go_wp2_with fail
  (with_reducible refine (laws_szGraph.calls s A c l 1000000 left _ (Kd.C_alloc HR.out _) HC.out HSZ.out).mono ?_)
  rintro e w1 ⟨rfl, hb⟩
  have HB := Aside0.mk (below_step (below_alloc (Below.refl _ _) _) hb)
  clear hb
  go_wp2_with fail
  go_ret
  exact ⟨by first | rfl | (simp; done) | (simp [*]; done), by repeat (first | (with_reducible first | exact HB.out | apply below_alloc | apply pw_below_drewN | apply below_drew1) | exact HB.out)⟩
/-- What is left to show: both functions give one answer. -/
def laws_FnExactIsConnected.Same : Prop := ∀ (s : Int) (l : List Int) , (Lit.int .i64 s).wf = true → l.length ≤ 1000000 → (∀ x ∈ l, (Lit.int .i64 x).wf = true) → ∃ (k : Nat) (r : Bool), spec_IsConnected.f k s l = some r ∧ impl_IsConnected.f k s l = some r
theorem laws_FnExactIsConnected.walk (P : laws_FnExactIsConnected.Same) (s : Int) (A : Option Addr) (c : Nat) (l : List Int) (w : World) (hs : (Lit.int .i64 s).wf = true) (hr : Kd.C (Kd.int .i64) w A l.length l) (hc : l.length ≤ c) (hlen : l.length * 8 ≤ 140737488351232) (hwf : ∀ x ∈ l, (Lit.int .i64 x).wf = true) :
    Calls Try.prog 9 #[.agg #[.int .i64 s, .slice A l.length c]] w fun e w' => e = .returned (.bool true) ∧ Below w.heap.size w w' := by
  obtain ⟨left, hsz, hl1, hl2⟩ := sz_graph s l (by omega)
  by_cases hb : left < 0
  · exact laws_FnExactIsConnected.big s A c l left w hr hc hsz hb
  · have hm : l.length ≤ 1000000 := hl1 hb
    obtain ⟨k, r, h1, h2⟩ := P s l hs hm hwf
    obtain ⟨tr, L, hL, hT, htake, hroom, hsum, heq⟩ := copy_facts s l hm (l.length * 4 + 100 + k) (by omega)
    exact laws_FnExactIsConnected.small s A c l (l.length * 4 + 100 + k) left tr L r w hr hc hsz hb hL hT htake hroom hsum heq (at_rounds (fun j => spec_IsConnected.mono s l j) (by omega) h1) (at_rounds (fun j => impl_IsConnected.mono s l j) (by omega) h2)

end Go.Proofs.Ytbmpehclflbbaaa.Q
