/- What the words of the program do to the words that the reference draws: a number comes back from its text, a text from its pieces; no condition. -/
import Derived.Test.YtnnhnbpgabbflaaDoorPWords
import Derived.Test.YtnnhnbpgabbflaaDoorPParse
import Derived.Test.YtnnhnbpgabbflaaDoorQx10
namespace Go.Proofs.YtnnhnbpgabbflaaDoor.Pure
open Go.RowKit Go.Proofs.YtnnhnbpgabbflaaDoor.Q Go.Proofs.YtnnhnbpgabbflaaDoorW.PrintWords Go.Proofs.YtnnhnbpgabbflaaDoorW.PrintLast Go.Proofs.YtnnhnbpgabbflaaDoorW.PrintMore

theorem itoa_short (z : Int) (h0 : -100000 ≤ z) (h1 : z ≤ 100000) : (tx (Lib.itoa z)).size ≤ 1000 := by
  rw [tx_size]
  have hd := dec_length 9 z.natAbs (by omega)
  have he := dec_length 9 z.toNat (by omega)
  unfold Lib.itoa
  split
  · rw [List.length_cons]
    omega
  · omega
theorem back_ok (z : Int) (h0 : -100000 ≤ z) (h1 : z ≤ 100000) : impl_FormatInt.f z = some (tx (Lib.itoa z)) ∧ impl_ParseInt.f (tx (Lib.itoa z)) = some (z, true) := by
  have hs := itoa_short z h0 h1
  constructor
  · unfold impl_FormatInt.f strconv_Itoa_17.f
    rw [if_pos ⟨by omega, by omega⟩]
    rfl
  · unfold impl_ParseInt.f
    rw [if_pos (by omega), parsed_yes (tx (Lib.itoa z)) z (by omega) (by omega) rfl]
theorem FnWords : laws_FnWords.Pure := by
  intro l _ _ _
  refine Ev.rounds (r := true) ?_
  by_cases hbig : (l.length : Int) > 1048576
  · exact Ev.congr (fun k => by unfold laws_FnWords.f; rw [if_pos hbig]) (Ev.now _)
  · refine Ev.congr (fun k => by unfold laws_FnWords.f; rw [if_neg hbig]) ?_
    have hl : l.length ≤ 2000000 := by omega
    obtain ⟨r, hr0, hr1, hr⟩ := num_ok l hl 1 (by decide)
    refine Ev.bind hr ?_
    have hw : wrap64 (r - 30000) = r - 30000 := wrap_small _ (by omega) (by omega)
    obtain ⟨hf, hp⟩ := back_ok (r - 30000) (by omega) (by omega)
    obtain ⟨s, hs, ht⟩ := text_ok l hl
    obtain ⟨y, hy, hy2⟩ := lines_ok
    rw [hw, hf]
    simp only [Option.bind_some, hp, if_true]
    refine Ev.bind ht ?_
    have hcut : ∃ l, Ev (fun k => impl_SplitAny.f k s ⟨#[32]⟩) l ∧ impl_Join.f l ⟨#[32]⟩ = some s := by
      obtain ⟨l, h1, h2⟩ := cut_back s 32 (by omega) (s.size + 1) (by omega)
      exact ⟨l, Ev.of (fun k => impl_SplitAny.mono _ _ k) h1, h2⟩
    obtain ⟨p, hp1, hp2⟩ := hcut
    refine Ev.bind hp1 ?_
    simp only [hp2, Option.bind_some, if_true]
    refine Ev.bind name_ok ?_
    simp only [hy, Option.bind_some, if_true, hy2]
    exact Ev.now _

end Go.Proofs.YtnnhnbpgabbflaaDoor.Pure
