/- The reference's own draws come to an end: a number below 65536; condition: a code of at most a million bytes. -/
import Derived.Test.YtfnlbakeefcmeaaPlain
import Derived.Test.YtfnlbakeefcmeaaQx4
import Derived.Test.YtfnlbakeefcmeaaQx10
import Derived.Test.YtfnlbakeefcmeaaXNew
namespace Go.Proofs.Ytfnlbakeefcmeaa.Pure
open Go.RowKit Go.Proofs.Ytfnlbakeefcmeaa.Q Go.Proofs.YtfnlbakeefcmeaaW.PrintWords Go.Proofs.YtfnlbakeefcmeaaW.PrintLast Go.Proofs.YtfnlbakeefcmeaaW.PrintMore

theorem and255 (a : Int) : 0 ≤ Go.bits .and .i64 a 255 ∧ Go.bits .and .i64 a 255 ≤ 255 := by
  have e : Go.bits .and .i64 a 255 = IntKind.i64.wrap (((BitVec.ofInt 64 a &&& BitVec.ofInt 64 255).toNat : Nat) : Int) := rfl
  have h : (BitVec.ofInt 64 a &&& BitVec.ofInt 64 255).toNat ≤ 255 := by
    rw [BitVec.toNat_and]
    exact Nat.le_trans Nat.and_le_right (by decide)
  rw [e, wraps_i64 _ (by omega) (by omega)]
  omega
/-- A state of the draws. -/
def StOk (l : List Int) (i : Int) : Prop := 0 ≤ i ∧ i ≤ (l.length : Int)
theorem byte_ok (l : List Int) (i h : Int) (hl : l.length ≤ 2000000) (hi : StOk l i) : ∃ x i' h', spec_l01Byte.f l i h = some (x, i', h') ∧ (0 ≤ x ∧ x ≤ 255) ∧ StOk l i' := by
  obtain ⟨h0, h1⟩ := hi
  unfold spec_l01Byte.f
  by_cases c : i < (l.length : Int)
  · rw [if_pos c, if_pos h0]
    refine ⟨_, _, _, rfl, and255 _, ?_⟩
    rw [wrap_close (i + 1) (by omega) (by omega)]
    exact ⟨by omega, by omega⟩
  · rw [if_neg c]
    exact ⟨_, _, _, rfl, and255 _, h0, h1⟩
theorem new_loop (l : List Int) (hl : l.length ≤ 2000000) : ∀ (d i : Nat) (h : Int), i + d = l.length → ∃ h', Ev (fun k => spec_l01New.l0 k l h (i : Int)) (l, 0, h')
  | 0, i, h, hd => by
    refine ⟨h, Ev.step (f := fun _ => some (l, 0, h)) (fun k => ?_) (Ev.now _)⟩
    simp only [spec_l01New.l0]
    rw [if_neg (by omega)]
  | d + 1, i, h, hd => by
    by_cases c : (i : Int) < 4000
    · have e : ∀ k, spec_l01New.l0 (k + 1) l h (i : Int) = spec_l01New.l0 k l (Go.bits .and .i64 (wrap64 ((wrap64 ((wrap64 (h * 137)) + (wrap64 (rd l (i : Int))))) + 7)) 1073741823) ((i + 1 : Nat) : Int) := fun k => by
        simp only [spec_l01New.l0]
        rw [if_pos (by omega), if_pos c, if_pos (by omega), show wrap64 ((i : Int) + 1) = ((i + 1 : Nat) : Int) by rw [wrap_close _ (by omega) (by omega)]; omega]
      obtain ⟨h', ih⟩ := new_loop l hl d (i + 1) (Go.bits .and .i64 (wrap64 ((wrap64 ((wrap64 (h * 137)) + (wrap64 (rd l (i : Int))))) + 7)) 1073741823) (by omega)
      exact ⟨h', Ev.step e ih⟩
    · refine ⟨h, Ev.step (f := fun _ => some (l, 0, h)) (fun k => ?_) (Ev.now _)⟩
      simp only [spec_l01New.l0]
      rw [if_pos (by omega), if_neg c]
theorem new_ok (l : List Int) (hl : l.length ≤ 2000000) : ∃ h, Ev (fun k => spec_l01New.f k l) (l, 0, h) := by
  unfold spec_l01New.f
  exact new_loop l hl l.length 0 _ (by omega)
theorem turn_ok (l : List Int) (hl : l.length ≤ 2000000) (a : Nat) (ha : a ≤ 1000) : ∀ (d i : Nat) (s1 s2 : Int), i + d = a → StOk l s1 → ∃ t1 t2, StOk l t1 ∧ Ev (fun k => spec_l15New.l0 k (a : Int) (i : Int) l s1 s2) (l, t1, t2)
  | 0, i, s1, s2, hd, hs => by
    refine ⟨s1, s2, hs, Ev.step (f := fun _ => some (l, s1, s2)) (fun k => ?_) (Ev.now _)⟩
    simp only [spec_l15New.l0]
    rw [if_neg (by omega)]
  | d + 1, i, s1, s2, hd, hs => by
    obtain ⟨x, i', h', hb, _, hs'⟩ := byte_ok l s1 s2 hl hs
    obtain ⟨t1, t2, ht, ih⟩ := turn_ok l hl a ha d (i + 1) i' h' (by omega) hs'
    refine ⟨t1, t2, ht, Ev.step (fun k => ?_) ih⟩
    simp only [spec_l15New.l0]
    rw [if_pos (by omega), hb, Option.bind_some, show wrap64 ((i : Int) + 1) = ((i + 1 : Nat) : Int) by rw [wrap_close _ (by omega) (by omega)]; omega]
theorem l15_ok (l : List Int) (hl : l.length ≤ 2000000) (a : Nat) (ha : a ≤ 1000) : ∃ t1 t2, StOk l t1 ∧ Ev (fun k => spec_l15New.f k l (a : Int)) (l, t1, t2) := by
  obtain ⟨h, hn⟩ := new_ok l hl
  obtain ⟨t1, t2, ht, hl0⟩ := turn_ok l hl a ha a 0 0 h (by omega) ⟨by omega, by omega⟩
  refine ⟨t1, t2, ht, ?_⟩
  unfold spec_l15New.f
  exact Ev.bind hn hl0
theorem num_ok (l : List Int) (hl : l.length ≤ 2000000) (a : Nat) (ha : a ≤ 1000) : ∃ r : Int, 0 ≤ r ∧ r ≤ 65535 ∧ Ev (fun k => spec_MakeNum.f k l (a : Int)) r := by
  obtain ⟨t1, t2, ht, hn⟩ := l15_ok l hl a ha
  obtain ⟨x, i1, h1, hb1, hx, hs1⟩ := byte_ok l t1 t2 hl ht
  obtain ⟨y, i2, h2, hb2, hy, hs2⟩ := byte_ok l i1 h1 hl hs1
  refine ⟨wrap64 (wrap64 (x * 256) + y), ?_, ?_, ?_⟩
  · rw [wrap_close (x * 256) (by omega) (by omega), wrap_close _ (by omega) (by omega)]
    omega
  · rw [wrap_close (x * 256) (by omega) (by omega), wrap_close _ (by omega) (by omega)]
    omega
  · unfold spec_MakeNum.f
    refine Ev.bind hn ?_
    simp only [hb1, hb2, Option.bind_some]
    exact Ev.now _

end Go.Proofs.Ytfnlbakeefcmeaa.Pure
