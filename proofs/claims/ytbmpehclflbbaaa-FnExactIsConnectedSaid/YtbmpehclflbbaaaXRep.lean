/- slices.Repeat of a list of one whole number is the list of so many of it; condition: from one to a thousand times. -/
import Derived.Test.YtbmpehclflbbaaaShelf
import Derived.Test.YtbmpehclflbbaaaQx0
import Derived.Laws.CopyOwn
import Derived.Laws.OwnMore
namespace Go.Proofs.Ytbmpehclflbbaaa.Q
open Go.RowKit Go.Proofs.YtbmpehclflbbaaaW.PrintWords Go.Proofs.YtbmpehclflbbaaaW.PrintLast Go.Proofs.YtbmpehclflbbaaaW.PrintMore
attribute [local go_sem] max2_int min2_int max_two min_two max_three min_three max_four min_four
set_option linter.unusedVariables false
set_option linter.unusedSimpArgs false
def slices_Repeat_int_int.f (l0 : List Int) (a1 : Int) : Option (List Int) := if l0.length = 1 ∧ 1 ≤ a1 ∧ a1 ≤ 1000 then some (List.replicate a1.toNat (l0.getD 0 0)) else none
/-- The row: k cells are filled. -/
def filled (n k : Nat) (v : Value) : List Value := List.replicate k v ++ List.replicate (n - k) (.int .i64 0)
theorem filled_length (n k : Nat) (v : Value) (h : k ≤ n) : (filled n k v).length = n := by simp [filled]; omega
theorem filled_splice (n k m : Nat) (v : Value) (h : k + m ≤ n) : splice (filled n k v) k (List.replicate m v) = filled n (k + m) v := by
  unfold splice filled
  rw [List.take_left' (by simp), List.length_replicate, List.drop_append, List.drop_of_length_le (by simp), List.nil_append, List.length_replicate, List.drop_replicate, ← List.append_assoc, List.replicate_append_replicate]
  congr 2
  omega
theorem filled_at (n k j : Nat) (v : Value) (h : j < k) : (filled n k v)[j]? = some v := by
  unfold filled
  rw [List.getElem?_append_left (by simpa using h), List.getElem?_replicate, if_pos h]
theorem rep_own {e : Nat} {w : World} {base : Nat} {v : Value} {xs : List Int} (h : w.ownsRow base e 1 v xs.length (xs.map (Value.int .i64))) : Kd.R (Kd.int .i64) e w base (fun _ => True) v xs := by
  refine ⟨fun _ _ => trivial, xs.map (Value.int .i64), h, by simp [Kd.int, Kd.scalar], fun j p hj => ?_⟩
  have hlt : j < xs.length := by
    rcases Nat.lt_or_ge j xs.length with h_ | h_
    · exact h_
    · rw [List.getElem?_eq_none h_] at hj; cases hj
  rw [List.getElem?_eq_getElem hlt] at hj
  obtain rfl := Option.some.inj hj
  show ((xs.map (Value.int .i64)).drop (j * 1)).take 1 = [Value.int .i64 xs[j]]
  rw [Nat.mul_one, List.drop_eq_getElem_cons (by simpa using hlt), List.take_succ_cons, List.take_zero, List.getElem_map]
set_option maxHeartbeats 8000000 in
set_option maxRecDepth 100000 in
theorem repeat_walk (ad : Addr) (c0 n : Nat) (x : Int) (w : World) (hx : w.cell? ad = some (.int .i64 x)) (h1 : 1 ≤ n) (hn : n ≤ 1000) :
    Calls Try.prog 70 #[.slice (some ad) 1 c0, .int .i64 (n : Int)] w fun e w' => e = .returned (.slice (some ⟨w.heap.size, 0, none⟩) n n) ∧ Aside0 (w'.heap[w.heap.size]? = some (.cells (filled n n (.int .i64 x)).toArray 3 (0, 0))) ∧ Below w.heap.size w w' := by
  have hmul : ∀ W, Calls Try.prog 76 #[.int .u64 1, .int .u64 (n : Int)] W fun e w' => e = .returned (.tuple #[.int .u64 0, .int .u64 (n : Int)]) ∧ w' = W := fun W => by
    refine (Try.bits_Mul 1 n (by decide) (by omega) W).mono fun e w' ⟨he, hw⟩ => ⟨?_, hw⟩
    rw [he, Nat.one_mul, Nat.div_eq_of_lt (by omega), Nat.mod_eq_of_lt (by omega)]
    rfl
  have hmk := run_make_row' (P := Try.prog) 22 3 (.int .i64 0) 8 Try.underlying22 (by kernel_rfl) rfl .i64 .i64 n (by omega) (by omega)
  have hsz : (Try.prog.info? 3).map (·.size) = some 1 := by kernel_rfl
  have hu1 : IntKind.u64.wrap 1 = 1 := by decide
  have hun : IntKind.u64.wrap (n : Int) = (n : Int) := by rw [IntKind.wrap_u64]; omega
  have hin : IntKind.i64.wrap (n : Int) = (n : Int) := by rw [IntKind.wrap_i64]; omega
  have hwn : wrap64 (n : Int) = (n : Int) := by unfold wrap64; omega
  have hneg : decide ((n : Int) < 0) = false := decide_eq_false (by omega)
  have hgt : decide ((n : Int) > 9223372036854775807) = false := decide_eq_false (by omega)
  have hgt2 : decide (9223372036854775807 < (n : Int)) = false := decide_eq_false (by omega)
  have hone : (Value.int .i64 x).oneCell' = true := by simp [Value.oneCell']
  obtain ⟨W1, hcp, hg1, hb1⟩ : ∃ W1 : World, (∀ ty, (Builtin.copy_ #[22, 22] ty #[.slice (some ⟨w.heap.size, 0, none⟩) n n, .slice (some ad) 1 c0]).run Try.prog (w.alloc (.cells (madeCells #[.int .i64 0] n) 3)) = .ok (.int .i64 1) W1) ∧ W1.heap[w.heap.size]? = some (.cells (filled n 1 (.int .i64 x)).toArray 3 (0, 0)) ∧ Below w.heap.size w W1 := by
    have hg := heap_alloc_new w (.cells (madeCells #[.int .i64 0] n) 3)
    have hcur : (madeCells #[Value.int .i64 0] n).toList = filled n 0 (.int .i64 x) := by rw [toList_madeCells_one]; simp [filled]
    have hsrc : ∀ (j : Nat) v, [Value.int .i64 x][j]? = some v → (w.alloc (.cells (madeCells #[.int .i64 0] n) 3)).cell? (ad.add j) = some v := fun j v hj => by
      cases j with
      | zero =>
        simp at hj
        subst hj
        rw [show ad.add 0 = ad by simp [Addr.add], World.cell?_alloc_old _ _ _ (Nat.ne_of_lt (World.block_lt_of_cell? _ _ hx))]
        exact hx
      | succ j => simp at hj
    refine ⟨_, fun ty => run_copy_row (P := Try.prog) _ 22 22 ty 3 w.heap.size 0 n n ad 1 c0 _ 3 [.int .i64 x] Try.underlying22 hsz hg (Nat.min_eq_left h1).symm hsrc (by rw [size_madeCells]; show 0 + 1 ≤ n; omega) (by simp [hone]), ?_, below_setRow (below_alloc (Below.refl _ _) _) (Nat.le_refl _) _⟩
    rw [setRow_heap _ _ _ _ 3 _ hg, hcur]
    have e := filled_splice n 0 1 (.int .i64 x) (by omega)
    rw [Nat.zero_add] at e
    rw [← e]
    rfl
  have HG := Aside0.mk hg1
  have HB := Aside0.mk hb1
  have HN := Aside0.mk (And.intro h1 hn)
  have hinf := Option.map_eq_some_iff.1 hsz
  obtain ⟨i3, hi3, his⟩ := hinf
  have HI := Aside0.mk (And.intro hi3 his)
  have HSZ := Aside0.mk hsz
  clear hx h1 hn hg1 hb1 hone hi3 his hsz
  go_enter Try.func70, Try.ntmps70
  go_wp2_with (first | (go_at_call 76; refine (hmul _).mono ?_; rintro e w' ⟨rfl, hw⟩; rw [hw]))
  clear hcp hmk hmul hgt hgt2 hneg hun hin hwn hu1
  go_loopg [8] (n - 1) (fun gq s8 wr => ∃ k : Nat, s8 = .int .i64 (k : Int) ∧ Aside0 (1 ≤ k ∧ k ≤ n ∧ gq + k = n) ∧ Aside0 (wr.heap[w.heap.size]? = some (.cells (filled n k (.int .i64 x)).toArray 3 (0, 0))) ∧ Aside0 (Below w.heap.size w wr))
  case atStart => exact ⟨1, rfl, ⟨Nat.le_refl 1, HN.out.1, by have := HN.out.1; omega⟩, HG, HB⟩
  case round =>
    obtain ⟨k, rfl, HK, HG, HB⟩ := hrel
    have hk1 := HK.out.1
    have hk2 := HK.out.2.1
    have hk3 := HK.out.2.2
    by_cases hk : k < n
    · have hd : decide ((k : Int) < (n : Int)) = true := decide_eq_true (by omega)
      obtain ⟨m, hm, hm1, hmn⟩ : ∃ m : Nat, m = Nat.min k (n - k) ∧ 1 ≤ m ∧ m ≤ n - k ∧ m ≤ k := ⟨Nat.min k (n - k), rfl, Nat.le_min.mpr ⟨hk1, by omega⟩, Nat.min_le_right _ _, Nat.min_le_left _ _⟩
      have HM := Aside0.mk hm
      clear hm
      have hcutA : ∀ W : World, (Instr.slice 22 (.slice (some ⟨w.heap.size, 0, none⟩) n n) (some (.int .i64 (k : Int))) none none).run Try.prog W = .ok (.slice (some ⟨w.heap.size, k, none⟩) (n - k) (n - k)) W := fun W => by
        rw [cut_from (P := Try.prog) 22 3 .i64 Try.underlying22 HI.out.1 1 HI.out.2 (some ⟨w.heap.size, 0, none⟩) n n (k : Int) (by omega) (by omega) W]
        rw [Int.toNat_natCast, if_neg (by omega)]
        have h0_ : k ≠ 0 := by omega
        simp [Addr.add, h0_]
      have hcutB : ∀ W : World, (Instr.slice 22 (.slice (some ⟨w.heap.size, 0, none⟩) n n) none (some (.int .i64 (k : Int))) none).run Try.prog W = .ok (.slice (some ⟨w.heap.size, 0, none⟩) k n) W := fun W => by
        rw [cut_to (P := Try.prog) 22 3 .i64 Try.underlying22 HI.out.1 (some ⟨w.heap.size, 0, none⟩) n n (k : Int) (by omega) (by omega) (Nat.le_refl n) W]
        rw [Int.toNat_natCast]
      have hsum : wrap64 ((k : Int) + (m : Int)) = ((k + m : Nat) : Int) := by have := HN.out.2; unfold wrap64; omega
      go_wp2
      have HG1 := Aside0.mk (blk_drew HG.out)
      have HB1 := Aside0.mk (below_drew1 HB.out)
      clear HG HB
      refine start_ (n := 10) (S := fun _ => True) (ds := []) #[false, false, false, false, false, false, false, false, false, false] (by kernel_rfl) rfl rfl trivial (fun _ => ?_)
      generalize wr.drew = w3 at HG1 HB1 ⊢
      refine pure_ (i := 0) (N := some 38) (v := ?_) (a' := ?_) #[true, false, false, false, false, false, false, false, false, false] rfl rfl (by kernel_rfl) (fun _ _ _ h => h) (Or.inl ⟨by rfl, ?_⟩) ?_ ?_
      rotate_left
      · intro w'
        go_simp
        with_reducible rfl
      rotate_left
      · simp only [Act.put, List.setIfInBounds_toArray, List.set_cons_zero, List.set_cons_succ, i64_w, i32_w]
        rfl
      refine pure_ (i := 1) (N := some 39) (v := ?_) (a' := ?_) #[true, true, false, false, false, false, false, false, false, false] rfl rfl (by kernel_rfl) (fun _ _ _ h => h) (Or.inl ⟨by rfl, ?_⟩) ?_ ?_
      rotate_left
      · intro w'
        go_simp
        with_reducible rfl
      rotate_left
      · simp only [Act.put, List.setIfInBounds_toArray, List.set_cons_zero, List.set_cons_succ, i64_w, i32_w]
        rfl
      refine pure_ (i := 2) (N := some 40) (v := ?_) (a' := ?_) #[true, true, true, false, false, false, false, false, false, false] rfl rfl (by kernel_rfl) (fun _ _ _ h => h) (Or.inl ⟨by rfl, ?_⟩) ?_ ?_
      rotate_left
      · intro w'
        go_simp
        with_reducible rfl
      rotate_left
      · simp only [Act.put, List.setIfInBounds_toArray, List.set_cons_zero, List.set_cons_succ, i64_w, i32_w]
        rfl
      refine pure_ (i := 3) (N := some 41) (v := ?_) (a' := ?_) #[true, true, true, true, false, false, false, false, false, false] rfl rfl (by kernel_rfl) (fun _ _ _ h => h) (Or.inl ⟨by rfl, ?_⟩) ?_ ?_
      rotate_left
      · intro w'
        go_simp
        with_reducible rfl
      rotate_left
      · simp only [Act.put, List.setIfInBounds_toArray, List.set_cons_zero, List.set_cons_succ, i64_w, i32_w]
        rfl
      refine pure_ (i := 4) (N := some 42) (v := ?_) (a' := ?_) #[true, true, true, true, true, false, false, false, false, false] rfl rfl (by kernel_rfl) (fun _ _ _ h => h) (Or.inl ⟨by rfl, ?_⟩) ?_ ?_
      rotate_left
      · intro w'
        go_simp
        with_reducible rfl
      rotate_left
      · simp only [Act.put, List.setIfInBounds_toArray, List.set_cons_zero, List.set_cons_succ, i64_w, i32_w]
        rfl
      refine pure_ (i := 5) (N := some 43) (v := ?_) (a' := ?_) #[true, true, true, true, true, true, false, false, false, false] rfl rfl (by kernel_rfl) (fun _ _ _ h => h) (Or.inl ⟨by rfl, ?_⟩) ?_ ?_
      rotate_left
      · intro w'
        go_simp
        with_reducible rfl
      rotate_left
      · simp only [Act.put, List.setIfInBounds_toArray, List.set_cons_zero, List.set_cons_succ, i64_w, i32_w]
        rfl
      refine pure_ (i := 6) (N := some 44) (v := ?_) (a' := ?_) #[true, true, true, true, true, true, true, false, false, false] rfl rfl (by kernel_rfl) (fun _ _ _ h => h) (Or.inl ⟨by rfl, ?_⟩) ?_ ?_
      rotate_left
      · intro w'
        go_simp
        with_reducible rfl
      rotate_left
      · simp only [Act.put, List.setIfInBounds_toArray, List.set_cons_zero, List.set_cons_succ, i64_w, i32_w]
        rfl
      refine one_ (i := 7) (N := some 45) #[true, true, true, true, true, true, true, true, false, false] rfl rfl (by kernel_rfl) (by decide) (fun K hK => ?_)
      refine step_copy_splice rfl (.tmp 41) (.tmp 44) 22 22 rfl 3 Try.underlying22 HSZ.out (some ⟨w.heap.size, k, none⟩) (some ⟨w.heap.size, 0, none⟩) (n - k) (n - k) k n (by rfl) (by rfl) w.heap.size k (filled n k (.int .i64 x)) 3 HG1.out (List.replicate m (.int .i64 x)) (by rw [List.length_replicate]; exact HM.out) (fun _ => ⟨rfl, _, rfl, fun j v hj => ?src⟩) (by rw [List.length_replicate, filled_length n k _ (by omega)]; omega) (fun v hv => by rw [List.eq_of_mem_replicate hv]; simp [Value.oneCell']) w.heap.size w HB1.out (Nat.le_refl _) ?_
      case src =>
        have hjm : j < m := by
          rcases Nat.lt_or_ge j m with h_ | h_
          · exact h_
          · rw [List.getElem?_eq_none (by simpa using h_)] at hj; cases hj
        rw [List.getElem?_replicate, if_pos hjm] at hj
        obtain rfl := Option.some.inj hj
        have hc_ := blk_cell HG1.out j
        rw [List.getElem?_toArray, filled_at n k j _ (by omega)] at hc_
        by_cases h0_ : j = 0
        · subst h0_
          simpa [Addr.add] using hc_
        · simpa [Addr.add, h0_] using hc_
      intro w4 hg4 hb4
      have HG2 := Aside0.mk hg4
      have HB2 := Aside0.mk hb4
      rw [filled_splice n k m _ (by omega)] at HG2
      clear hg4 hb4 HG1 HB1
      refine hK.out _ _ trivial (fun _ => ?_)
      clear hK K
      rw [List.length_replicate]
      refine norm_ (a' := ?_) ?_ ?_
      rotate_left
      · show Act.put _ (some 45) _ = _
        simp only [Act.put, List.setIfInBounds_toArray, List.set_cons_zero, List.set_cons_succ, i64_w, i32_w]
        rfl
      refine pure_ (i := 8) (N := some 46) (v := ?_) (a' := ?_) #[true, true, true, true, true, true, true, true, true, false] rfl rfl (by kernel_rfl) (fun _ _ _ h => h) (Or.inl ⟨by rfl, ?_⟩) ?_ ?_
      rotate_left
      · intro w'
        go_simp
        with_reducible rfl
      rotate_left
      · simp only [Act.put, List.setIfInBounds_toArray, List.set_cons_zero, List.set_cons_succ, i64_w, i32_w]
        rfl
      refine pure_ (i := 9) (N := some 8) (v := ?_) (a' := ?_) #[true, true, true, true, true, true, true, true, true, true] rfl rfl (by kernel_rfl) (fun _ _ _ h => h) (Or.inl ⟨by rfl, ?_⟩) ?_ ?_
      rotate_left
      · intro w'
        go_simp
        with_reducible rfl
      rotate_left
      · simp only [Act.put, List.setIfInBounds_toArray, List.set_cons_zero, List.set_cons_succ, i64_w, i32_w]
        rfl
      refine done_ (by kernel_rfl) ?_
      try go_wp2
      go_roundg (n - (k + m))
      case measure => omega
      case rel => exact ⟨k + m, by first | (rw [hsum]; done) | (congr 1), ⟨by omega, by omega, by omega⟩, HG2, HB2⟩
    · have hd : decide ((k : Int) < (n : Int)) = false := decide_eq_false (by omega)
      obtain rfl : k = n := by omega
      go_wp2
      go_ret
      exact ⟨rfl, HG, HB.out⟩
theorem slices_Repeat_int_int.calls (A0 : Option Addr) (c0 : Nat) (l0 : List Int) (a1 : Int) (r : List Int) (w : World) (hr0 : Kd.C (Kd.int .i64) w A0 l0.length l0) (hc0 : l0.length ≤ c0) (h : slices_Repeat_int_int.f l0 a1 = some r) :
    Calls Try.prog 70 #[.slice A0 l0.length c0, .int .i64 a1] w fun e w' => ∃ v0_ : Value, e = .returned (v0_) ∧ Kd.R (Kd.int .i64) 3 w' w.heap.size (fun _ => True) v0_ r ∧ Below w.heap.size w w' := by
  unfold slices_Repeat_int_int.f at h
  by_cases hc : l0.length = 1 ∧ 1 ≤ a1 ∧ a1 ≤ 1000
  · rw [if_pos hc] at h
    obtain rfl := Option.some.inj h
    obtain ⟨n, rfl⟩ : ∃ n : Nat, a1 = (n : Int) := ⟨a1.toNat, by omega⟩
    rw [Int.toNat_natCast]
    obtain ⟨x, rfl⟩ : ∃ x, l0 = [x] := by
      match l0, hc.1 with
      | [x], _ => exact ⟨x, rfl⟩
    obtain ⟨ad, rfl, hcell⟩ := hr0.2.2 (by show 0 < 1; decide)
    have hx : w.cell? ad = some (.int .i64 x) := by
      obtain ⟨c, hcl, hk, hcc⟩ := hcell 0 x rfl
      have hk' : c = [Value.int .i64 x] := hk
      subst hk'
      have := hcc 0 _ rfl
      simpa [Kd.int, Kd.scalar, Addr.add] using this
    refine (repeat_walk ad c0 n x w hx (by omega) (by omega)).mono fun e w' ⟨he, hg, hb⟩ => ⟨_, he, ?_, hb⟩
    have hx0 : [x].getD 0 0 = x := rfl
    rw [hx0]
    refine rep_own ⟨by simp, .inr ⟨w.heap.size, n, _, by rw [List.length_replicate], Nat.le_refl _, hg.out, by simp, ?_, ?_, ?_⟩⟩
    · unfold maxLen; omega
    · simp [filled]
    · simp [filled]
  · rw [if_neg hc] at h
    cases h
end Go.Proofs.Ytbmpehclflbbaaa.Q
