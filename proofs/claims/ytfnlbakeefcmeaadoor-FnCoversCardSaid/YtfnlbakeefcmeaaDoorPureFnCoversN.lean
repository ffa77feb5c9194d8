/- What holds of the greatest set without neighbors, the smallest dominating set and the clique cover of the graph that the reference draws; no condition. -/
import Derived.Test.YtfnlbakeefcmeaaDoorPCovN
import Derived.Test.YtfnlbakeefcmeaaDoorPMakeGN
import Derived.Test.YtfnlbakeefcmeaaDoorPSetN
import Derived.Test.YtfnlbakeefcmeaaDoorQx32N
namespace Go.Proofs.YtfnlbakeefcmeaaDoor.Pure
open Go.RowKit Go.Proofs.YtfnlbakeefcmeaaDoor.Q Go.Proofs.YtfnlbakeefcmeaaDoorW.PrintWords Go.Proofs.YtfnlbakeefcmeaaDoorW.PrintLast Go.Proofs.YtfnlbakeefcmeaaDoorW.PrintMore

theorem valid_ok {s : Int} {l : List Int} {n : Nat} (V : Valid s l n) : okB s l = true := by
  have hl := V.len
  rw [okB_iff, hl]
  exact V
theorem valid_set {s : Int} {l : List Int} {n x : Nat} (V : Valid s l n) (hx : x < 2 ^ n) : setB s l (x : Int) = true := by
  have hl := V.len
  rw [setB_iff, hl]
  exact ⟨V, x, rfl, hx⟩
theorem indep_is {s : Int} {l : List Int} {n x : Nat} (V : Valid s l n) (hx : x < 2 ^ n) : Ev (fun k => impl_IsIndependent.f k s l (x : Int)) (freeB l x) := by
  unfold impl_IsIndependent.f
  refine Ev.bind (impl_set s l x) ?_
  rw [valid_set V hx]
  refine Ev.congr (fun k => if_pos rfl) ?_
  exact Ev.bind (impl_free V hx) (Ev.now _)
theorem clique_is {s : Int} {l : List Int} {n x : Nat} (V : Valid s l n) (hx : x < 2 ^ n) : Ev (fun k => impl_IsClique.f k s l (x : Int)) (fullB l x) := by
  unfold impl_IsClique.f
  refine Ev.bind (impl_set s l x) ?_
  rw [valid_set V hx]
  refine Ev.congr (fun k => if_pos rfl) ?_
  exact Ev.bind (impl_full V hx) (Ev.now _)
theorem dom_is {s : Int} {l : List Int} {n x : Nat} (V : Valid s l n) (hx : x < 2 ^ n) : Ev (fun k => impl_IsDominating.f k s l (x : Int)) (near l x == 2 ^ n - 1) := by
  unfold impl_IsDominating.f
  refine Ev.bind (impl_set s l x) ?_
  rw [valid_set V hx]
  refine Ev.congr (fun k => if_pos rfl) ?_
  refine Ev.bind (impl_near V hx) ?_
  have ha := impl_all_is n l V.hi
  rw [← V.size] at ha
  rw [ha]
  simp only [Option.bind_some]
  rw [show (((near l x : Nat) : Int) == ((2 ^ n - 1 : Nat) : Int)) = (near l x == 2 ^ n - 1) by rw [Bool.eq_iff_iff, beq_iff_eq, beq_iff_eq]; omega]
  exact Ev.now _
theorem last_ok {s : Int} {l : List Int} {n x : Nat} (V : Valid s l n) (hx : x < 2 ^ n) : Ev (fun k => laws_FnCovers.j1 k (x : Int) false s l) true := by
  have hn := V.hi
  have h256 := pow_le_256 n hn
  refine Ev.step (fun k => by simp only [laws_FnCovers.j1]; rw [if_neg (show ¬ false = true by decide)]) ?_
  refine Ev.bind (clique_is V hx) ?_
  cases hc : fullB l x with
  | false => exact Ev.now _
  | true =>
    refine Ev.congr (fun k => if_pos rfl) ?_
    refine Ev.bind (indep_is V hx) ?_
    cases hf : freeB l x with
    | false => exact Ev.now _
    | true =>
      have h1 := free_full V hx hf hc
      simp only [if_true, impl_size x (show x < 256 by omega), Option.bind_some, show ((size x : Nat) : Int) ≤ 1 by omega, decide_true]
      exact Ev.now _
theorem mid_ok (code : List Int) (hcode : code.length ≤ 2000000) {s : Int} {l : List Int} {n i d : Nat} (V : Valid s l n) (hi : i < 2 ^ n) (hd : d < 2 ^ n)
    (hI : ∀ y, y < 2 ^ n → freeB l y = true → size y ≤ size i) (hD : ∀ y, y < 2 ^ n → near l y = 2 ^ n - 1 → size d ≤ size y) :
    Ev (fun k => laws_FnCovers.j0 k code (i : Int) (d : Int) false s l) true := by
  have hn := V.hi
  have h256 := pow_le_256 n hn
  have hp : 0 < 2 ^ n := Nat.two_pow_pos n
  have hs := V.size
  obtain ⟨r, hr0, hr1, hr⟩ := num_ok code hcode 30 (by decide)
  obtain ⟨x, hx, hxe⟩ : ∃ x : Nat, x < 2 ^ n ∧ Int.tmod r (shl .i64 1 s) = (x : Int) := by
    refine ⟨(r % ((2 ^ n : Nat) : Int)).toNat, ?_, ?_⟩
    · have h1 := Int.emod_nonneg r (show ((2 ^ n : Nat) : Int) ≠ 0 by omega)
      have h2 := Int.emod_lt_of_pos r (show (0 : Int) < ((2 ^ n : Nat) : Int) by omega)
      omega
    · have h1 := Int.emod_nonneg r (show ((2 ^ n : Nat) : Int) ≠ 0 by omega)
      rw [hs, shl_one n (by omega), Int.tmod_eq_emod_of_nonneg hr0, Int.toNat_of_nonneg h1]
  have hz : ¬ shl .i64 1 s = 0 := by
    rw [hs, shl_one n (by omega)]
    omega
  have hlast := last_ok V hx
  have hcx := impl_size x (show x < 256 by omega)
  have hci := impl_size i (show i < 256 by omega)
  have hcd := impl_size d (show d < 256 by omega)
  have hdom : Ev (fun k => (impl_IsDominating.f k s l (x : Int)).bind fun t425 => (if t425 = true then ((impl_CountSet.f (x : Int)).bind fun t426 => ((impl_CountSet.f (d : Int)).bind fun t427 => (laws_FnCovers.j1 k (x : Int) (decide (t426 < t427)) s l))) else (laws_FnCovers.j1 k (x : Int) false s l))) true := by
    refine Ev.bind (dom_is V hx) ?_
    cases hb : (near l x == 2 ^ n - 1) with
    | false => exact hlast
    | true =>
      have h1 := hD x hx (beq_iff_eq.mp hb)
      simp only [if_true, hcx, hcd, Option.bind_some, show ¬ ((size x : Nat) : Int) < ((size d : Nat) : Int) by omega, decide_false]
      exact hlast
  refine Ev.step (fun k => by simp only [laws_FnCovers.j0]; rw [if_neg (show ¬ false = true by decide)]) ?_
  refine Ev.bind hr ?_
  rw [hxe]
  refine Ev.congr (fun k => by rw [if_pos (show 0 ≤ s by omega), if_neg hz]) ?_
  refine Ev.bind (indep_is V hx) ?_
  cases hf : freeB l x with
  | false => exact hdom
  | true =>
    have h1 := hI x hx hf
    simp only [if_true, hcx, hci, Option.bind_some, show ¬ ((size x : Nat) : Int) > ((size i : Nat) : Int) by omega, if_false]
    rw [hcx] at hdom
    simp only [Option.bind_some] at hdom
    exact hdom

theorem FnCovers : laws_FnCovers.Pure := by
  intro code _ _ _
  refine Ev.rounds (r := true) ?_
  by_cases hbig : (code.length : Int) > 1048576
  · exact Ev.congr (fun k => by unfold laws_FnCovers.f; rw [if_pos hbig]) (Ev.now _)
  · refine Ev.congr (fun k => by unfold laws_FnCovers.f; rw [if_neg hbig]) ?_
    have hcode : code.length ≤ 2000000 := by omega
    obtain ⟨s, l, n, V, hg⟩ := graph_ok code hcode 0 (by decide)
    have hn := V.hi
    have hs := V.size
    have h256 := pow_le_256 n hn
    have hp : 0 < 2 ^ n := Nat.two_pow_pos n
    have hok := valid_ok V
    have ha := impl_all_is n l hn
    rw [← hs] at ha
    have hw : wrap64 (((2 ^ n - 1 : Nat) : Int) + 1) = ((2 ^ n : Nat) : Int) := by
      rw [wrap_close _ (by omega) (by omega)]
      omega
    -- the three answers
    obtain ⟨hi, hif, _, him⟩ := most_is (l := l) n (2 ^ n) 0 0 (by omega) hp (by unfold freeB; rw [show bitsOf 0 = [] by decide]; rfl)
    have h1 : Ev (fun k => impl_MostIndependent.f k s l) ((mostFrom l 0 0 (2 ^ n) : Nat) : Int) := by
      unfold impl_MostIndependent.f
      refine Ev.bind (impl_ok s l) ?_
      rw [hok]
      simp only [if_true, ha, Option.bind_some, hw]
      exact impl_most V (2 ^ n) 0 0 (by omega) hp
    generalize mostFrom l 0 0 (2 ^ n) = i at hi hif him h1
    have hI : ∀ y, y < 2 ^ n → freeB l y = true → size y ≤ size i := fun y hy hyf => him y (Nat.zero_le _) (by omega) hyf
    obtain ⟨d, h2, hF⟩ := impl_few V (2 ^ n - 1) 0 (2 ^ n - 1) (by omega) (by omega) (.inl rfl) (.inr ⟨rfl, Nat.le_refl _⟩) (fun x hx1 _ => by omega)
    have h2f : Ev (fun k => impl_FewestDominating.f k s l) ((d : Nat) : Int) := by
      unfold impl_FewestDominating.f
      refine Ev.bind (impl_ok s l) ?_
      rw [hok]
      simp only [if_true, ha, Option.bind_some]
      exact h2
    have hd := hF.lt
    have hD : ∀ y, y < 2 ^ n → near l y = 2 ^ n - 1 → size d ≤ size y := fun y hy hyn => by
      have := hF.least y hy (.inr hyn)
      unfold Ahead at this
      omega
    obtain ⟨u, hu, G, h3⟩ := cov_both V
    have h3f : Ev (fun k => impl_CliqueCover.f k s l) ((u.getD (2 ^ n - 1) 0 : Nat) : Int) := by
      unfold impl_CliqueCover.f
      refine Ev.bind (impl_ok s l) ?_
      rw [hok]
      have hr : (List.replicate (2 ^ n) 0 : List Int) = ints (List.replicate (2 ^ n) 0) := by unfold ints; rw [List.map_replicate]; rfl
      refine Ev.congr (fun k => ?_) h3
      rw [if_pos rfl, ha, Option.bind_some, hw, if_pos (by omega), Int.toNat_natCast, if_pos (by omega), hr]
      rfl
    have hc1 := cover_all V G i hi hif (2 ^ n) (2 ^ n - 1) (by omega) (by omega)
    rw [show i &&& (2 ^ n - 1) = i by rw [Nat.and_two_pow_sub_one_eq_mod]; exact Nat.mod_eq_of_lt hi] at hc1
    have hc2 := G.le (2 ^ n - 1) (by omega)
    have hc3 := size_le_n (show 2 ^ n - 1 < 2 ^ n by omega) hn
    generalize u.getD (2 ^ n - 1) 0 = c at h3f hc1 hc2
    have hin := most_near V hi hif hI
    have hdn := fits_near V hd hF.fits
    have hdi := hD i hi hin
    have hci := impl_size i (show i < 256 by omega)
    have hcd := impl_size d (show d < 256 by omega)
    refine Ev.bind hg (Ev.bind h1 (Ev.bind h2f (Ev.bind h3f ?_)))
    refine Ev.bind (indep_is V hi) ?_
    rw [hif]
    refine Ev.congr (fun k => if_pos rfl) ?_
    refine Ev.bind (dom_is V hi) ?_
    rw [beq_iff_eq.mpr hin]
    refine Ev.congr (fun k => if_pos rfl) ?_
    refine Ev.bind (dom_is V hd) ?_
    rw [beq_iff_eq.mpr hdn]
    refine Ev.congr (fun k => if_pos rfl) ?_
    simp only [hcd, hci, Option.bind_some, show ¬ ((size d : Nat) : Int) > ((size i : Nat) : Int) by omega, show ¬ ((size i : Nat) : Int) > ((c : Nat) : Int) by omega, if_false, show ¬ ((c : Nat) : Int) > s by omega, decide_false]
    exact mid_ok code hcode V hi hd hI hD

end Go.Proofs.YtfnlbakeefcmeaaDoor.Pure
