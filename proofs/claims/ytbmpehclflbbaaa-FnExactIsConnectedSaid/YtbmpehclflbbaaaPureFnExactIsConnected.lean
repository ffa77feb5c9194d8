/- IsConnected of the program and IsConnected of the reference answer alike at every graph; no condition. -/
import Derived.Test.YtbmpehclflbbaaaWalkFnExactIsConnected
import Derived.Test.YtbmpehclflbbaaaPDist
namespace Go.Proofs.Ytbmpehclflbbaaa.Pure
open Go.RowKit Go.Proofs.Ytbmpehclflbbaaa.Q Go.Proofs.YtbmpehclflbbaaaW.PrintWords Go.Proofs.YtbmpehclflbbaaaW.PrintLast Go.Proofs.YtbmpehclflbbaaaW.PrintMore

theorem index_loop (l : List Int) (x : Int) (hl : l.length ≤ 1000) : ∀ (d i : Nat), i + d = l.length → ∃ r : Int, (0 ≤ r ↔ x ∈ l.drop i) ∧ Ev (fun k => slices_Index_int_int.l0 k l x (l.length : Int) (i : Int)) r
  | 0, i, hd => by
    refine ⟨-1, ?_, ?_⟩
    · rw [List.drop_of_length_le (by omega)]
      simp
    · refine Ev.step (f := fun _ => some (-1)) (fun k => ?_) (Ev.now _)
      simp only [slices_Index_int_int.l0]
      rw [if_neg (by omega)]
  | d + 1, i, hd => by
    have hi : i < l.length := by omega
    have hrd : rd l (i : Int) = l[i] := by
      unfold rd
      rw [Int.toNat_natCast, List.getD_eq_getElem?_getD, List.getElem?_eq_getElem hi]
      rfl
    obtain ⟨r, h1, h2⟩ := index_loop l x hl d (i + 1) (by omega)
    by_cases h : x = l[i]
    · refine ⟨(i : Int), ?_, ?_⟩
      · rw [List.drop_eq_getElem_cons hi]
        constructor
        · intro _
          rw [h]
          exact List.mem_cons_self
        · intro _
          omega
      · refine Ev.step (f := fun _ => some (i : Int)) (fun k => ?_) (Ev.now _)
        simp only [slices_Index_int_int.l0]
        rw [if_pos (by omega), if_pos (by omega), if_pos (by omega), hrd, if_pos h]
    · refine ⟨r, ?_, ?_⟩
      · rw [h1, List.drop_eq_getElem_cons hi, List.mem_cons]
        constructor
        · exact .inr
        · rintro (e | e)
          · exact absurd e h
          · exact e
      · refine Ev.step (fun k => ?_) h2
        simp only [slices_Index_int_int.l0]
        rw [if_pos (by omega), if_pos (by omega), if_pos (by omega), hrd, if_neg h, next i (by omega)]
theorem contains_is (l : List Int) (x : Int) (hl : l.length ≤ 1000) (b : Bool) (hb : b = true ↔ x ∈ l) : Ev (fun k => slices_Contains_int_int.f k l x) b := by
  obtain ⟨r, h1, h2⟩ := index_loop l x hl l.length 0 (by omega)
  unfold slices_Contains_int_int.f slices_Index_int_int.f
  refine Ev.bind h2 ?_
  rw [List.drop_zero] at h1
  have e : decide (r ≥ 0) = b := by
    rw [Bool.eq_iff_iff, decide_eq_true_iff, hb]
    exact h1
  rw [e]
  exact Ev.now _
theorem spec_conn_loop {s : Int} {l : List Int} {n : Nat} (V : Valid s l n) :
    ∀ (d i : Nat), i + d = n → Ev (fun k => spec_IsConnected.l0 k ((ball l 0 i : Nat) : Int) (i : Int) s l) (ball l 0 n == 2 ^ n - 1)
  | 0, i, hd => by
    obtain rfl : i = n := by omega
    have hs := V.size
    have hn := V.hi
    have hp : 0 < 2 ^ i := Nat.two_pow_pos i
    refine Ev.step (f := fun _ => some (ball l 0 i == 2 ^ i - 1)) (fun k => ?_) (Ev.now _)
    simp only [spec_IsConnected.l0]
    rw [if_neg (by omega), if_pos (by omega), hs, full_val i hn]
    congr 1
    rw [Bool.eq_iff_iff, beq_iff_eq, beq_iff_eq]
    omega
  | d + 1, i, hd => by
    have hn := V.hi
    have hlo := V.lo
    have hs := V.size
    have ih := spec_conn_loop V d (i + 1) (by omega)
    refine Ev.step (fun k => by simp only [spec_IsConnected.l0]; rw [if_pos (show (i : Int) < s by omega), next i (by omega)]) ?_
    exact Ev.bind (spec_near V (ball_lt V (by omega) i)) ih

theorem FnExactIsConnected : laws_FnExactIsConnected.Same := by
  intro s l _ _ _
  cases h : okB s l with
  | false =>
    refine both_of (r := false) ?_ ?_
    · unfold spec_IsConnected.f
      refine Ev.bind (spec_ok s l) ?_
      rw [h]
      exact Ev.now _
    · unfold impl_IsConnected.f
      refine Ev.bind (impl_ok s l) ?_
      rw [h]
      exact Ev.now _
  | true =>
    have V := (okB_iff s l).mp h
    have hn := V.hi
    have hlo := V.lo
    have hp : 0 < 2 ^ l.length := Nat.two_pow_pos _
    obtain ⟨K, hK, hfix, hd⟩ := impl_dist V (show 0 < l.length by omega)
    have hball : ball l 0 l.length = ball l 0 K := by
      obtain ⟨d, hd⟩ : ∃ d, l.length = K + d := ⟨l.length - K, by omega⟩
      have := ball_stays hfix d
      rw [← hd] at this
      exact this
    refine both_of (r := ball l 0 l.length == 2 ^ l.length - 1) ?_ ?_
    · unfold spec_IsConnected.f
      refine Ev.bind (spec_ok s l) ?_
      rw [h]
      simp only [if_true]
      exact spec_conn_loop V l.length 0 (by omega)
    · unfold impl_IsConnected.f
      refine Ev.bind (impl_ok s l) ?_
      rw [h]
      simp only [if_true]
      refine Ev.bind hd ?_
      refine Ev.bind (a := !(ball l 0 l.length == 2 ^ l.length - 1)) (contains_is _ _ (by rw [mixT_length]; omega) _ ?_) ?_
      · rw [Bool.not_eq_true', beq_eq_false_iff_ne]
        unfold mixT
        rw [List.mem_map]
        constructor
        · intro hne
          have hex : ∃ w, w < l.length ∧ (ball l 0 K).testBit w = false := by
            apply Classical.byContradiction
            intro hno
            apply hne
            rw [hball]
            apply Nat.eq_of_testBit_eq
            intro i
            rw [Nat.testBit_two_pow_sub_one]
            by_cases hi : i < l.length
            · rw [decide_eq_true hi]
              cases hb : (ball l 0 K).testBit i with
              | true => rfl
              | false => exact absurd ⟨i, hi, hb⟩ hno
            · rw [decide_eq_false hi]
              exact bit_none _ _ _ (ball_lt V (by omega) K) (by omega)
          obtain ⟨w, hw, hb⟩ := hex
          refine ⟨w, List.mem_range.mpr hw, ?_⟩
          rw [if_neg (by omega)]
          refine firstTo_none _ _ (fun j hj => ?_)
          cases hbj : (ball l 0 j).testBit w with
          | false => exact hbj
          | true =>
            obtain ⟨d, rfl⟩ : ∃ d, K = j + d := ⟨K - j, by omega⟩
            have := ball_more l 0 j d w hbj
            rw [hb] at this
            cases this
        · rintro ⟨w, hw, he⟩ hfull
          rw [List.mem_range] at hw
          rw [if_neg (by omega)] at he
          have hbw : (ball l 0 K).testBit w = true := by
            rw [← hball, hfull, Nat.testBit_two_pow_sub_one]
            exact decide_eq_true hw
          rcases first_or (fun j => (ball l 0 j).testBit w) (K + 1) with h1 | ⟨i, h1, h2, h3⟩
          · have := h1 K (by omega)
            rw [hbw] at this
            cases this
          · obtain ⟨d, hd2⟩ : ∃ d, K + 1 = i + 1 + d := ⟨K - i, by omega⟩
            rw [hd2, firstTo_some _ i h2 h3 d] at he
            omega
      · rw [Bool.not_not]
        exact Ev.now _

end Go.Proofs.Ytbmpehclflbbaaa.Pure
