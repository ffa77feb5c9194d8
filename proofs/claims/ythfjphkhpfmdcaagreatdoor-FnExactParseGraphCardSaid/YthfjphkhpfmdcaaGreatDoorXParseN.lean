/- ParseInt of the program, out of the library's contracts of Atoi and Itoa; conditions: at most a million bytes; the library's table and errors hold what its text lays. -/
import Derived.Test.YthfjphkhpfmdcaaGreatDoorXItoaN
import Derived.Shelf.Strconv.ErrVarAll
import Derived.Lib.AtoiTie
import Derived.Lib.AtoiErrMem
import Derived.Lib.AtoiAllCases
namespace Go.Proofs.YthfjphkhpfmdcaaGreatDoor.Q
open Go.RowKit Go.Proofs.YthfjphkhpfmdcaaGreatDoorW.PrintWords Go.Proofs.YthfjphkhpfmdcaaGreatDoorW.PrintLast Go.Proofs.YthfjphkhpfmdcaaGreatDoorW.PrintMore
attribute [local go_sem] max2_int min2_int max_two min_two max_three min_three max_four min_four
set_option linter.unusedVariables false
set_option linter.unusedSimpArgs false
/-- What ParseInt answers. -/
def parsed (s : ByteArray) : Int × Bool := match Lib.atoiAll s.data.toList with
  | .ok v => if Lib.itoa v = s.data.toList then (v, true) else (0, false)
  | _ => (0, false)
def impl_ParseInt.f (a0 : ByteArray) : Option (Int × Bool) := if a0.size ≤ 1000000 then some (parsed a0) else none
theorem below_atoi {e : TypeId} {w w' : World} (h : w' = w ∨ ∃ t, w' = Lib.bytesWorld w e t) : Below w.heap.size w w' := by
  rcases h with rfl | ⟨t, rfl⟩
  · exact Below.refl _ _
  · exact Lib.bytesWorld_below w e t
theorem itoa_data (v : Int) : (⟨(Lib.itoa v).toArray⟩ : ByteArray).toList = Lib.itoa v := by
  rw [Lib.toList_data]
set_option maxHeartbeats 8000000 in
set_option maxRecDepth 100000 in
theorem impl_ParseInt.calls (a0 : ByteArray) (r1 : Int) (r2 : Bool) (w : World) (hT_ : TabE w) (h : impl_ParseInt.f a0 = some (r1, r2)) :
    Calls Tryz.prog 15 #[.string a0] w fun e w' => e = .returned (.tuple #[.int .i64 r1, .bool r2]) ∧ Below w.heap.size w w' := by
  unfold impl_ParseInt.f at h
  by_cases hc : a0.size ≤ 1000000
  · rw [if_pos hc] at h
    have hp := Option.some.inj h
    have HT := Aside0.mk hT_
    clear h hT_
    unfold parsed at hp
    cases ha : Lib.atoiAll a0.data.toList
    · rename_i v
      have hb := Lib.atoiAll_bounds ha
      rw [ha] at hp
      have hA := Tryz.strconv_Atoi_ok a0 (by omega) v ha w
      have HB0 := Aside0.mk hb
      clear ha hb
      by_cases hs : Lib.itoa v = a0.data.toList
      · simp only [hs, if_true, Prod.mk.injEq] at hp
        obtain ⟨rfl, rfl⟩ := hp
        have c0 : ((⟨(Lib.itoa v).toArray⟩ : ByteArray).toList == a0.toList) = true := by rw [itoa_data, hs, Lib.toList_data]; exact beq_self_eq_true _
        have c1 : ((⟨(Lib.itoa v).toArray⟩ : ByteArray).toList != a0.toList) = false := by rw [itoa_data, hs, Lib.toList_data]; simp
        have c2 : (Lib.itoa v == a0.toList) = true := by rw [hs, Lib.toList_data]; exact beq_self_eq_true _
        have HA := Aside0.mk hA
        clear hA hs
        go_enter Tryz.func15, Tryz.ntmps15
        go_wp2_with (first | (go_at_call 30; refine HA.out.mono ?_; rintro e w1 ⟨rfl, hw⟩; have HB := Aside0.mk (below_atoi hw); clear hw) | (go_at_call 31; refine (strconv_Itoa_31.calls v ⟨(Lib.itoa v).toArray⟩ _ ?side1 ?side2).mono ?_; (case side1 => first | exact HT.out.below HB.out | (repeat (first | exact HT.out.below HB.out | (with_reducible refine TabE.alloc ?_ _) | (with_reducible refine TabE.drewN ?_ _) | (with_reducible refine TabE.drew ?_)))); (case side2 => unfold strconv_Itoa_31.f; rw [if_pos HB0.out]); rintro e w2 ⟨rfl, hb⟩; have n0_ := Aside0.mk (below_step (by repeat (first | (with_reducible first | exact HB.out | apply below_alloc | apply pw_below_drewN | apply below_drew1) | exact HB.out)) hb); clear HB hb; have HB := n0_; clear n0_))
        go_ret2
        exact ⟨by first | rfl | (simp; done) | (simp [*]; done), by repeat (first | (with_reducible first | exact HB.out | apply below_alloc | apply pw_below_drewN | apply below_drew1) | exact HB.out)⟩
      · simp only [hs, if_false, Prod.mk.injEq] at hp
        obtain ⟨rfl, rfl⟩ := hp
        have c0 : ((⟨(Lib.itoa v).toArray⟩ : ByteArray).toList == a0.toList) = false := by rw [itoa_data, Lib.toList_data]; exact beq_eq_false_iff_ne.mpr hs
        have c1 : ((⟨(Lib.itoa v).toArray⟩ : ByteArray).toList != a0.toList) = true := by rw [itoa_data, Lib.toList_data]; exact bne_iff_ne.mpr hs
        have c2 : (Lib.itoa v == a0.toList) = false := by rw [Lib.toList_data]; exact beq_eq_false_iff_ne.mpr hs
        have HA := Aside0.mk hA
        clear hA hs
        go_enter Tryz.func15, Tryz.ntmps15
        go_wp2_with (first | (go_at_call 30; refine HA.out.mono ?_; rintro e w1 ⟨rfl, hw⟩; have HB := Aside0.mk (below_atoi hw); clear hw) | (go_at_call 31; refine (strconv_Itoa_31.calls v ⟨(Lib.itoa v).toArray⟩ _ ?side1 ?side2).mono ?_; (case side1 => first | exact HT.out.below HB.out | (repeat (first | exact HT.out.below HB.out | (with_reducible refine TabE.alloc ?_ _) | (with_reducible refine TabE.drewN ?_ _) | (with_reducible refine TabE.drew ?_)))); (case side2 => unfold strconv_Itoa_31.f; rw [if_pos HB0.out]); rintro e w2 ⟨rfl, hb⟩; have n0_ := Aside0.mk (below_step (by repeat (first | (with_reducible first | exact HB.out | apply below_alloc | apply pw_below_drewN | apply below_drew1) | exact HB.out)) hb); clear HB hb; have HB := n0_; clear n0_))
        go_ret2
        exact ⟨by first | rfl | (simp; done) | (simp [*]; done), by repeat (first | (with_reducible first | exact HB.out | apply below_alloc | apply pw_below_drewN | apply below_drew1) | exact HB.out)⟩
    · rw [ha] at hp
      simp only [Prod.mk.injEq] at hp
      obtain ⟨rfl, rfl⟩ := hp
      obtain ⟨_, ⟨t, p, hv⟩, _⟩ := HT.out
      have HA := Aside0.mk (Any.strconv_Atoi_syntax_var (ρ := Tryz.laysC172_ren) Tryz.laysC172 a0 (by omega) ha t p w hv)
      clear ha hv
      go_enter Tryz.func15, Tryz.ntmps15
      go_wp2_with (first | (go_at_call 30; refine (show Calls Tryz.prog 30 _ _ _ from HA.out).mono ?_; rintro e w1 ⟨b_, rfl, _, _, hb⟩; have HB := Aside0.mk hb; clear hb))
      go_ret2
      exact ⟨by first | rfl | (simp; done) | (simp [*]; done), by repeat (first | (with_reducible first | exact HB.out | apply below_alloc | apply pw_below_drewN | apply below_drew1) | exact HB.out)⟩
    · rw [ha] at hp
      simp only [Prod.mk.injEq] at hp
      obtain ⟨rfl, rfl⟩ := hp
      obtain ⟨_, _, t, p, hv⟩ := HT.out
      have HA := Aside0.mk (Any.strconv_Atoi_range_var (ρ := Tryz.laysC172_ren) Tryz.laysC172 a0 (by omega) ha t p w hv)
      clear ha hv
      go_enter Tryz.func15, Tryz.ntmps15
      go_wp2_with (first | (go_at_call 30; refine (show Calls Tryz.prog 30 _ _ _ from HA.out).mono ?_; rintro e w1 ⟨b_, rfl, _, _, hb⟩; have HB := Aside0.mk hb; clear hb))
      go_ret2
      exact ⟨by first | rfl | (simp; done) | (simp [*]; done), by repeat (first | (with_reducible first | exact HB.out | apply below_alloc | apply pw_below_drewN | apply below_drew1) | exact HB.out)⟩
  · rw [if_neg hc] at h
    cases h
end Go.Proofs.YthfjphkhpfmdcaaGreatDoor.Q
