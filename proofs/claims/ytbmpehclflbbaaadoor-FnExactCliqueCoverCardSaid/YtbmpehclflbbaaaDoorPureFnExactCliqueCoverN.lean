/- CliqueCover of the program and CliqueCover of the reference answer alike at every graph; no condition. -/
import Derived.Test.YtbmpehclflbbaaaDoorWalkFnExactCliqueCoverN
import Derived.Test.YtbmpehclflbbaaaDoorPCover2N
namespace Go.Proofs.YtbmpehclflbbaaaDoor.Pure
open Go.RowKit Go.Proofs.YtbmpehclflbbaaaDoor.Q Go.Proofs.YtbmpehclflbbaaaDoorW.PrintWords Go.Proofs.YtbmpehclflbbaaaDoorW.PrintLast Go.Proofs.YtbmpehclflbbaaaDoorW.PrintMore

theorem FnExactCliqueCover : laws_FnExactCliqueCover.Same := by
  intro s l _ _ _
  cases h : okB s l with
  | false =>
    refine both_of (r := -1) ?_ ?_
    · unfold spec_CliqueCover.f
      refine Ev.bind (spec_ok s l) ?_
      rw [h]
      exact Ev.now _
    · unfold impl_CliqueCover.f
      refine Ev.bind (impl_ok s l) ?_
      rw [h]
      exact Ev.now _
  | true =>
    have V := (okB_iff s l).mp h
    have hn := V.hi
    have hs := V.size
    have h256 := pow_le_256 _ hn
    have hp : 0 < 2 ^ l.length := Nat.two_pow_pos _
    obtain ⟨u, hu, _, h1, h2⟩ := cov_both V
    refine both_of (r := ((u.getD (2 ^ l.length - 1) 0 : Nat) : Int)) ?_ ?_
    · unfold spec_CliqueCover.f
      refine Ev.bind (spec_ok s l) ?_
      rw [h]
      simp only [if_true]
      refine Ev.bind h1 ?_
      have hfv := full_val _ hn
      rw [← hs] at hfv
      have hlen : (ints u).length = 2 ^ l.length := by rw [ints_length, hu]
      simp only [show (0 : Int) ≤ s by omega, hfv, hlen, show (0 : Int) ≤ ((2 ^ l.length - 1 : Nat) : Int) by omega, show ((2 ^ l.length - 1 : Nat) : Int) < ((2 ^ l.length : Nat) : Int) by omega, if_true]
      rw [rd_ints]
      exact Ev.now _
    · unfold impl_CliqueCover.f
      refine Ev.bind (impl_ok s l) ?_
      rw [h]
      have hall := impl_all_is _ l hn
      rw [← hs] at hall
      have hw : wrap64 (((2 ^ l.length - 1 : Nat) : Int) + 1) = ((2 ^ l.length : Nat) : Int) := by rw [wrap_close _ (by omega) (by omega)]; omega
      have hr : (List.replicate (2 ^ l.length) 0 : List Int) = ints (List.replicate (2 ^ l.length) 0) := by unfold ints; rw [List.map_replicate]; rfl
      refine Ev.congr (fun k => ?_) h2
      rw [if_pos rfl, hall, Option.bind_some, hw, if_pos (by omega), Int.toNat_natCast, if_pos (by omega), hr]
      rfl

end Go.Proofs.YtbmpehclflbbaaaDoor.Pure
