/- Made by a program of this session (wip/tools/mkstrlaw.py): the walk of the law FnExactJoin, out of what the two functions give; no condition beside that. -/
import Derived.Test.YthfjphkhpfmdcaaXStr
import Derived.Test.YthfjphkhpfmdcaaCopiesS
import Derived.Test.YthfjphkhpfmdcaaQx0
import Derived.Test.YthfjphkhpfmdcaaQx9
import Derived.Test.YthfjphkhpfmdcaaQx14
import Derived.Test.YthfjphkhpfmdcaaQx15
import Derived.Test.YthfjphkhpfmdcaaQx16
import Derived.Test.YthfjphkhpfmdcaaQx30
namespace Go.Proofs.Ythfjphkhpfmdcaa.Q
open Go.RowKit Go.Proofs.YthfjphkhpfmdcaaW.PrintWords Go.Proofs.YthfjphkhpfmdcaaW.PrintLast Go.Proofs.YthfjphkhpfmdcaaW.PrintMore Go.Proofs.Ythfjphkhpfmdcaa.Pure
attribute [local go_sem] max2_int min2_int max_two min_two max_three min_three max_four min_four
set_option linter.unusedVariables false
set_option linter.unusedSimpArgs false

set_option maxHeartbeats 8000000 in
set_option maxRecDepth 100000 in
theorem laws_FnExactJoin.small (A : Option Addr) (c : Nat) (l : List ByteArray) (b : ByteArray) (k : Nat) (a left tr : Int) (L : List ByteArray) (r : ByteArray) (w : World) (hr : Kd.C Kd.string w A l.length l) (hc : l.length ≤ c)
    (ha : IntKind.i64.wrap (1000000 - (b.size : Int)) = a) (hsz : laws_szStringS.f k l a = some left) (hleft : ¬ left < 0) (hL : laws_toStringS_all.f k l false = some L) (hT : laws_toStringS.f k l true = some l) (htake : L.take l.length = l) (hroom : laws_roomBehind.f (l.length : Int) = some tr)
    (hsum : wrap64 ((l.length : Int) + tr) = (L.length : Int)) (heq : laws_eqStringS.f k L L = some true) (hspec : spec_Join.f k l b = some r) (himpl : impl_Join.f l b = some r) :
    Calls Try.prog 7 #[.slice A l.length c, .string b] w fun e w' => e = .returned (.bool true) ∧ Below w.heap.size w w' := by
  have HR := Aside0.mk hr
  have HC := Aside0.mk hc
  have HSZ := Aside0.mk hsz
  have HL := Aside0.mk hL
  have HT := Aside0.mk hT
  have HTAKE := Aside0.mk htake
  have HROOM := Aside0.mk hroom
  have HSUM := Aside0.mk hsum
  have HEQ := Aside0.mk heq
  have HSPEC := Aside0.mk hspec
  have HIMPL := Aside0.mk himpl
  have hl0 : decide (left < 0) = false := decide_eq_false hleft
  have hrr : (r.toList != r.toList) = false := by simp
  have hrr2 : (r.toList == r.toList) = true := by simp
  clear hr hc hsz hleft hL hT htake hroom hsum heq hspec himpl
  go_enter Try.func7, Try.ntmps7
  go_wp2_with fail
  (with_reducible refine (laws_szStringS.calls k A c l a left _ HR.out HC.out HSZ.out).mono ?_)
  rintro e w1 ⟨rfl, ⟨nd1, rfl⟩⟩
  have HB := Aside0.mk (pw_below_drewN (Below.refl w.heap.size w) nd1)
  generalize w.drewN nd1 = w1 at HB ⊢
  go_wp2_with fail
  (with_reducible refine (laws_toStringS_all.calls k A c l false L _ (Kd.C_below HR.out HB.out) HC.out HL.out).mono ?_)
  rintro e w2 ⟨A2, c2, rfl, ho, hle, hb⟩
  have C2 := Aside0.mk (cut_row (Kd.R_reads' ho).2.2 HTAKE.out)
  have E2 := Aside0.mk (Nat.le_trans hle (Kd.R_reads' ho).2.1)
  clear ho hle
  have n0_ := Aside0.mk (below_step HB.out hb)
  clear HB hb
  have HB := n0_
  clear n0_
  go_wp2_with fail
  (with_reducible refine (spec_Join.calls k A2 c2 l b r _ C2.out E2.out HSPEC.out).mono ?_)
  rintro e w3 ⟨rfl, ⟨nd3, rfl⟩⟩
  clear C2 E2
  have n0_ := Aside0.mk (pw_below_drewN HB.out nd3)
  clear HB
  have HB := n0_
  clear n0_
  generalize w2.drewN nd3 = w3 at HB ⊢
  go_wp2_with fail
  (with_reducible refine (laws_toStringS_all.calls k A c l false L _ (Kd.C_below HR.out HB.out) HC.out HL.out).mono ?_)
  rintro e w4 ⟨A4, c4, rfl, ho, hle, hb⟩
  have C4 := Aside0.mk (Kd.R_reads' ho).2.2
  have E4 := Aside0.mk (Kd.R_reads' ho).2.1
  have F4 := Aside0.mk hle
  clear ho hle
  have n0_ := Aside0.mk (below_step HB.out hb)
  clear HB hb
  have HB := n0_
  clear n0_
  go_wp2_with fail
  (with_reducible refine (impl_Join.calls A4 c4 l b r _ (cut_row C4.out HTAKE.out) (Nat.le_trans F4.out E4.out) HIMPL.out).mono ?_)
  rintro e w5 ⟨rfl, hb⟩
  have n0_ := Aside0.mk (below_step HB.out hb)
  have n1_ := Aside0.mk (Kd.C_below C4.out hb)
  clear HB C4 hb
  have HB := n0_
  have C4 := n1_
  clear n0_ n1_
  go_wp2_with fail
  (with_reducible refine (laws_toStringS_all.calls k A c l false L _ (Kd.C_below HR.out HB.out) HC.out HL.out).mono ?_)
  rintro e w6 ⟨A6, c6, rfl, ho, hle, hb⟩
  have C6 := Aside0.mk (Kd.R_reads' ho).2.2
  have E6 := Aside0.mk (Kd.R_reads' ho).2.1
  clear ho hle
  have n0_ := Aside0.mk (below_step HB.out hb)
  have n1_ := Aside0.mk (Kd.C_below C4.out hb)
  clear HB C4 hb
  have HB := n0_
  have C4 := n1_
  clear n0_ n1_
  go_wp2_with fail
  (with_reducible refine (laws_intactStringS_same.calls k A4 c4 A6 c6 l.length tr L _ C4.out E4.out C6.out E6.out F4.out HROOM.out HSUM.out HEQ.out).mono ?_)
  rintro e w7 ⟨rfl, ⟨nd7, rfl⟩⟩
  clear C4 E4 F4 C6 E6
  have n0_ := Aside0.mk (pw_below_drewN HB.out nd7)
  clear HB
  have HB := n0_
  clear n0_
  generalize w6.drewN nd7 = w7 at HB ⊢
  go_wp2_with fail
  (with_reducible refine (laws_toStringS.calls k A c l true l _ (Kd.C_below HR.out HB.out) HC.out HT.out).mono ?_)
  rintro e w9 ⟨v9, rfl, ho, hb⟩
  obtain ⟨A9, c9, eo⟩ := Kd.R_slice ho
  subst eo
  have C9 := Aside0.mk (Kd.R_reads' ho).2.2
  have E9 := Aside0.mk (Kd.R_reads' ho).2.1
  clear ho
  have n0_ := Aside0.mk (below_step HB.out hb)
  clear HB hb
  have HB := n0_
  clear n0_
  go_wp2_with fail
  (with_reducible refine (impl_Join.calls A9 c9 l b r _ C9.out E9.out HIMPL.out).mono ?_)
  rintro e w10 ⟨rfl, hb⟩
  have HE := Aside0.mk (below_step HB.out hb)
  clear hb
  go_wp2_with fail
  go_ret
  exact ⟨by first | rfl | (simp; done) | (simp [*]; done), by repeat (first | (with_reducible first | exact HE.out | apply below_alloc | apply pw_below_drewN | apply below_drew1) | exact HE.out)⟩
set_option maxHeartbeats 8000000 in
set_option maxRecDepth 100000 in
theorem laws_FnExactJoin.big (A : Option Addr) (c : Nat) (l : List ByteArray) (b : ByteArray) (k : Nat) (a left : Int) (w : World) (hr : Kd.C Kd.string w A l.length l) (hc : l.length ≤ c) (ha : IntKind.i64.wrap (1000000 - (b.size : Int)) = a) (hsz : laws_szStringS.f k l a = some left) (hleft : left < 0) :
    Calls Try.prog 7 #[.slice A l.length c, .string b] w fun e w' => e = .returned (.bool true) ∧ Below w.heap.size w w' := by
  have HR := Aside0.mk hr
  have HC := Aside0.mk hc
  have HSZ := Aside0.mk hsz
  have hl0 : decide (left < 0) = true := decide_eq_true hleft
  clear hr hc hsz hleft
  go_enter Try.func7, Try.ntmps7
  go_wp2_with fail
  (with_reducible refine (laws_szStringS.calls k A c l a left _ HR.out HC.out HSZ.out).mono ?_)
  rintro e w1 ⟨rfl, ⟨nd1, rfl⟩⟩
  have HB := Aside0.mk (pw_below_drewN (Below.refl w.heap.size w) nd1)
  generalize w.drewN nd1 = w1 at HB ⊢
  go_wp2_with fail
  go_ret
  exact ⟨by first | rfl | (simp; done) | (simp [*]; done), by repeat (first | (with_reducible first | exact HB.out | apply below_alloc | apply pw_below_drewN | apply below_drew1) | exact HB.out)⟩
/-- What is left to show: both functions give one answer. -/
def laws_FnExactJoin.Same : Prop := ∀ (l : List ByteArray) (b : ByteArray), l.length ≤ 1000000 → tot l ≤ 1000000 → b.size ≤ 1000000 → ∃ (k : Nat) (r : ByteArray), spec_Join.f k l b = some r ∧ impl_Join.f l b = some r
theorem laws_FnExactJoin.walk (P : laws_FnExactJoin.Same) (A : Option Addr) (c : Nat) (l : List ByteArray) (b : ByteArray) (w : World) (hr : Kd.C Kd.string w A l.length l) (hc : l.length ≤ c) (hlen : l.length ≤ 140737488355328) (hx : ∀ x ∈ l, x.size ≤ 140737488355328) (hbl : b.size ≤ 140737488355328) :
    Calls Try.prog 7 #[.slice A l.length c, .string b] w fun e w' => e = .returned (.bool true) ∧ Below w.heap.size w w' := by
  have ha : IntKind.i64.wrap (1000000 - (b.size : Int)) = 1000000 - (b.size : Int) := (i64_w _).trans (wrap_near _ (by omega) (by omega))
  obtain ⟨left, ⟨k0, hsz⟩, hl1⟩ := sz_strings l (1000000 - (b.size : Int)) (by omega) (by omega) hlen hx
  by_cases hb : left < 0
  · exact laws_FnExactJoin.big A c l b k0 _ left w hr hc ha (hsz k0 (Nat.le_refl _)) hb
  · obtain ⟨hm, ht⟩ := hl1 hb
    have hbs : b.size ≤ 1000000 := by
      rcases Nat.lt_or_ge 1000000 b.size with h | h
      · exfalso
        have h2 : laws_szStringS.f (k0 + 1) l (1000000 - (b.size : Int)) = some left := hsz (k0 + 1) (by omega)
        unfold laws_szStringS.f at h2
        rw [wrap_near _ (by omega) (by omega), if_pos (by omega)] at h2
        have := Option.some.inj h2
        omega
      · exact h
    obtain ⟨k, r, h1, h2⟩ := P l b hm ht hbs
    have hK : ∃ K, k0 ≤ K ∧ k ≤ K ∧ l.length * 4 + 100 ≤ K := ⟨k0 + k + l.length * 4 + 100, by omega, by omega, by omega⟩
    obtain ⟨K, hK0, hK1, hK2⟩ := hK
    have hr2 := room_le l.length
    have hwl := whole_length l
    exact laws_FnExactJoin.small A c l b K _ left (roomN l.length : Int) (whole l) r w hr hc ha (hsz K hK0) hb (all_is l hm K (by omega)) (int_is l hm K (by omega) true) (whole_take l) (room_is l.length) (by rw [wrap_near _ (by omega) (by omega), hwl]; omega) (eq_ints_is (whole l) (by omega) K (by omega)) (at_rounds (fun j => spec_Join.mono l b j) hK1 h1) h2

end Go.Proofs.Ythfjphkhpfmdcaa.Q
