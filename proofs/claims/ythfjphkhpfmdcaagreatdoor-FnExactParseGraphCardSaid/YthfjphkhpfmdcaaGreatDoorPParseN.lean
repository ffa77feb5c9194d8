/- ParseInt of the reference and of the program answer alike: the number, where the text is just what FormatInt writes of it; condition: at most a million bytes. -/
import Derived.Test.YthfjphkhpfmdcaaGreatDoorPFmtIntN
import Derived.Test.YthfjphkhpfmdcaaGreatDoorXParseN
import Derived.Test.YthfjphkhpfmdcaaGreatDoorQx2N
import Derived.Test.YthfjphkhpfmdcaaGreatDoorQx4N
namespace Go.Proofs.YthfjphkhpfmdcaaGreatDoor.Pure
open Go.RowKit Go.Proofs.YthfjphkhpfmdcaaGreatDoor.Q Go.Proofs.YthfjphkhpfmdcaaGreatDoorW.PrintWords Go.Proofs.YthfjphkhpfmdcaaGreatDoorW.PrintLast Go.Proofs.YthfjphkhpfmdcaaGreatDoorW.PrintMore

/-- A digit. -/
def digB (b : UInt8) : Bool := decide (48 ≤ b.toNat) && decide (b.toNat ≤ 57)
theorem digB_iff (b : UInt8) : digB b = true ↔ 48 ≤ b.toNat ∧ b.toNat ≤ 57 := by
  unfold digB
  rw [Bool.and_eq_true, decide_eq_true_iff, decide_eq_true_iff]
theorem bt_l (s : ByteArray) (i : Nat) (h : i < s.data.toList.length) : bt s (i : Int) = (((s.data.toList[i]).toNat : Nat) : Int) := by
  unfold bt
  simp only [Int.toNat_natCast, Array.getElem_toList]
  rw [dif_pos (show i < s.size from h)]
  rfl
theorem spec_digs (s : ByteArray) (hs : s.size ≤ 10000000) : ∀ (d i : Nat), i + d = s.size → Ev (fun k => spec_IsDigits.l0 k s (i : Int)) ((s.data.toList.drop i).all digB && decide (0 < s.size))
  | 0, i, hd => by
    have hl : s.data.toList.length = s.size := rfl
    rw [List.drop_of_length_le (by omega)]
    refine Ev.step (f := fun _ => some (decide (0 < s.size))) (fun k => ?_) (Ev.now _)
    simp only [spec_IsDigits.l0]
    rw [if_neg (by omega)]
    simp
  | d + 1, i, hd => by
    have hl : s.data.toList.length = s.size := rfl
    have hi : i < s.data.toList.length := by omega
    have ih := spec_digs s hs d (i + 1) (by omega)
    have hw : wrap64 ((i : Int) + 1) = ((i + 1 : Nat) : Int) := w64_id _ (by omega) (by omega)
    rw [List.drop_eq_getElem_cons hi, List.all_cons]
    have e : ∀ k, spec_IsDigits.l0 (k + 1) s (i : Int) = if digB s.data.toList[i] = true then spec_IsDigits.l0 k s ((i + 1 : Nat) : Int) else some false := fun k => by
      simp only [spec_IsDigits.l0]
      rw [if_pos (by omega), if_pos (by omega), bt_l s i hi, hw]
      unfold digB
      by_cases h1 : ((s.data.toList[i].toNat : Nat) : Int) < 48
      · rw [if_pos h1, decide_eq_false (show ¬ 48 ≤ s.data.toList[i].toNat by omega)]
        rfl
      · rw [if_neg h1, decide_eq_true (show 48 ≤ s.data.toList[i].toNat by omega), Bool.true_and]
        by_cases h2 : ((s.data.toList[i].toNat : Nat) : Int) > 57
        · rw [if_pos h2, decide_eq_false (show ¬ s.data.toList[i].toNat ≤ 57 by omega)]
          rfl
        · rw [if_neg h2, decide_eq_true (show s.data.toList[i].toNat ≤ 57 by omega), if_pos rfl]
    cases hb : digB s.data.toList[i] with
    | true => exact Ev.step (fun k => by rw [e, hb, if_pos rfl]) (by rw [Bool.true_and]; exact ih)
    | false => exact Ev.step (f := fun _ => some false) (fun k => by rw [e, hb, if_neg (by decide)]) (by rw [Bool.false_and, Bool.false_and]; exact Ev.now _)
/-- The number that digits spell, behind a. -/
def valF (a : Nat) : List UInt8 → Nat
  | [] => a
  | c :: r => valF (a * 10 + (c.toNat - 48)) r
theorem valF_ge : ∀ (r : List UInt8) (a : Nat), a ≤ valF a r
  | [], a => Nat.le_refl a
  | c :: r, a => by
    unfold valF
    have := valF_ge r (a * 10 + (c.toNat - 48))
    omega
theorem valF_append : ∀ (r t : List UInt8) (a : Nat), valF a (r ++ t) = valF (valF a r) t
  | [], _, _ => rfl
  | _ :: r, t, _ => valF_append r t _
theorem valF_one (a : Nat) (c : UInt8) : valF a [c] = a * 10 + (c.toNat - 48) := rfl
theorem letter_nat (d : Nat) (h : d < 10) : (UInt8.ofNat (48 + d)).toNat = 48 + d := by
  rw [UInt8.toNat_ofNat']
  omega
theorem dec_val : ∀ (d n : Nat), n < 10 ^ (d + 1) → valF 0 (Lib.decDigits n) = n ∧ (Lib.decDigits n).all digB = true ∧ Lib.decDigits n ≠ []
  | d, n, h => by
    by_cases hn : n < 10
    · rw [dec_small n hn]
      refine ⟨?_, ?_, by simp⟩
      · rw [valF_one, letter_nat n hn]
        omega
      · rw [List.all_cons, List.all_nil, Bool.and_true, digB_iff, letter_nat n hn]
        omega
    · cases d with
      | zero => exact absurd (by simpa using h) hn
      | succ d =>
        obtain ⟨h1, h2, _⟩ := dec_val d (n / 10) (by rw [Nat.pow_succ] at h; omega)
        rw [dec_more n hn]
        refine ⟨?_, ?_, by simp⟩
        · rw [valF_append, h1, valF_one, letter_nat (n % 10) (by omega)]
          omega
        · rw [List.all_append, h2, Bool.true_and, List.all_cons, List.all_nil, Bool.and_true, digB_iff, letter_nat (n % 10) (by omega)]
          omega
theorem le_of_room (B a q d : Nat) (h1 : a * 10 + d ≤ B) (h2 : B < 10 * q + d + 10) : ¬ -(a : Int) < -(q : Int) := by omega
theorem lt_of_room (B a q d : Nat) (h1 : ¬ a * 10 + d ≤ B) (h2 : 10 * q + d ≤ B) : -(a : Int) < -(q : Int) := by omega
/-- The end: the number, where the text is what is written of it. -/
def finB (s : ByteArray) (neg : Bool) (m : Nat) : Int × Bool :=
  if neg = true then (if Lib.itoa (-(m : Int)) = s.data.toList then (-(m : Int), true) else (0, false))
  else if m = 9223372036854775808 then (0, false) else (if Lib.itoa (m : Int) = s.data.toList then ((m : Int), true) else (0, false))
theorem tx_list (l : List UInt8) : (tx l).toList = l := by
  rw [Lib.toList_data]
  rfl
theorem spec_parse_loop (s t : ByteArray) (neg : Bool) (ht : t.size ≤ 1000000) :
    ∀ (d i a : Nat), i + d = t.size → a ≤ 9223372036854775808 → (t.data.toList.drop i).all digB = true →
      Ev (fun k => spec_ParseInt.l0 k s neg t (-(a : Int)) (i : Int)) (if valF a (t.data.toList.drop i) ≤ 9223372036854775808 then finB s neg (valF a (t.data.toList.drop i)) else (0, false))
  | 0, i, a, hd, ha, hdig => by
    have hl : t.data.toList.length = t.size := rfl
    rw [List.drop_of_length_le (by omega)]
    unfold valF
    rw [if_pos ha]
    unfold finB
    cases neg with
    | true =>
      rw [if_pos rfl]
      refine Ev.step (fun k => by simp only [spec_ParseInt.l0]; rw [if_neg (by omega), if_pos trivial]) ?_
      refine Ev.bind (spec_fmt (-(a : Int)) (by omega) (by omega)) ?_
      rw [tx_list, Lib.toList_data]
      split <;> exact Ev.now _
    | false =>
      rw [if_neg (by decide)]
      by_cases hm : a = 9223372036854775808
      · rw [if_pos hm]
        refine Ev.step (f := fun _ => some (0, false)) (fun k => ?_) (Ev.now _)
        simp only [spec_ParseInt.l0]
        rw [if_neg (by omega), if_neg (by decide), if_pos (by omega)]
      · rw [if_neg hm]
        have hw : wrap64 (-(-(a : Int))) = (a : Int) := by rw [w64_id _ (by omega) (by omega)]; omega
        refine Ev.step (fun k => by simp only [spec_ParseInt.l0]; rw [if_neg (by omega), if_neg (by decide), if_neg (by omega), hw]) ?_
        refine Ev.bind (spec_fmt (a : Int) (by omega) (by omega)) ?_
        rw [tx_list, Lib.toList_data]
        split <;> exact Ev.now _
  | d + 1, i, a, hd, ha, hdig => by
    have hl : t.data.toList.length = t.size := rfl
    have hi : i < t.data.toList.length := by omega
    rw [List.drop_eq_getElem_cons hi] at hdig ⊢
    rw [List.all_cons, Bool.and_eq_true, digB_iff] at hdig
    obtain ⟨⟨h48, h57⟩, hrest⟩ := hdig
    unfold valF
    have hge := valF_ge (t.data.toList.drop (i + 1)) (a * 10 + ((t.data.toList[i]).toNat - 48))
    have hbt := bt_l t i hi
    obtain ⟨dd, hdd⟩ : ∃ dd : Nat, (t.data.toList[i]).toNat = 48 + dd := ⟨(t.data.toList[i]).toNat - 48, by omega⟩
    have e1 : wrap64 ((wrap64 (bt t (i : Int))) - 48) = (dd : Int) := by
      rw [hbt, hdd, w64_id ((48 + dd : Nat) : Int) (by omega) (by omega), w64_id _ (by omega) (by omega)]
      omega
    obtain ⟨q, hq1, hq2⟩ : ∃ q : Nat, 10 * q + dd ≤ 9223372036854775808 ∧ 9223372036854775808 < 10 * q + dd + 10 := ⟨(9223372036854775808 - dd) / 10, by omega, by omega⟩
    have hdv : (9223372036854775808 - (dd : Int)) / 10 = (q : Int) := by omega
    have e2 : wrap64 (Int.tdiv (wrap64 ((-9223372036854775808) + (dd : Int))) 10) = -(q : Int) := by
      rw [w64_id (-9223372036854775808 + (dd : Int)) (by omega) (by omega), show (-9223372036854775808 + (dd : Int)) = -(9223372036854775808 - (dd : Int)) by omega, Int.neg_tdiv, Int.tdiv_eq_ediv_of_nonneg (by omega), hdv, w64_id _ (by omega) (by omega)]
    have hnx : wrap64 ((i : Int) + 1) = ((i + 1 : Nat) : Int) := w64_id _ (by omega) (by omega)
    by_cases hbig : a * 10 + dd ≤ 9223372036854775808
    · have ih := spec_parse_loop s t neg ht d (i + 1) (a * 10 + dd) (by omega) hbig hrest
      rw [show (t.data.toList[i]).toNat - 48 = dd by omega]
      have e3 : wrap64 ((wrap64 (-(a : Int) * 10)) - (dd : Int)) = -((a * 10 + dd : Nat) : Int) := by
        rw [w64_id (-(a : Int) * 10) (by omega) (by omega), w64_id _ (by omega) (by omega)]
        omega
      refine Ev.step (fun k => ?_) ih
      simp only [spec_ParseInt.l0]
      have hno : ¬ -(a : Int) < -(q : Int) := le_of_room _ a q dd hbig hq2
      have hp1 : (i : Int) < (t.size : Int) := Int.ofNat_lt.mpr hi
      have hp2 : (0 : Int) ≤ (i : Int) := Int.natCast_nonneg i
      rw [if_pos hp1, if_pos hp2, e1, e2, if_neg hno, e3, hnx]
    · rw [if_neg (by omega)]
      refine Ev.step (f := fun _ => some (0, false)) (fun k => ?_) (Ev.now _)
      simp only [spec_ParseInt.l0]
      have hyes : -(a : Int) < -(q : Int) := lt_of_room _ a q dd hbig hq1
      have hp1 : (i : Int) < (t.size : Int) := Int.ofNat_lt.mpr hi
      have hp2 : (0 : Int) ≤ (i : Int) := Int.natCast_nonneg i
      rw [if_pos hp1, if_pos hp2, e1, e2, if_pos hyes]
/-- What stands behind the sign. -/
def restB (s : ByteArray) (neg : Bool) : ByteArray := if neg = true then s.extract 1 s.size else s
/-- The sign is there. -/
def negB (s : ByteArray) : Bool := decide (0 < s.size) && bt s 0 == 45
def ansB (s : ByteArray) : Int × Bool :=
  if ((restB s (negB s)).data.toList.all digB && decide (0 < (restB s (negB s)).size)) = true then (if (restB s (negB s)).size > 19 then (0, false) else
    (if valF 0 (restB s (negB s)).data.toList ≤ 9223372036854775808 then finB s (negB s) (valF 0 (restB s (negB s)).data.toList) else (0, false))) else (0, false)
theorem rest_size (s : ByteArray) (neg : Bool) : (restB s neg).size ≤ s.size := by
  unfold restB
  split
  · rw [ByteArray.size_extract]
    omega
  · exact Nat.le_refl _
theorem spec_parse (s : ByteArray) (hs : s.size ≤ 1000000) : Ev (fun k => spec_ParseInt.f k s) (ansB s) := by
  have hj : Ev (fun k => spec_ParseInt.j0 k s (negB s)) (ansB s) := by
    have hrs := rest_size s (negB s)
    have e0 : ∀ k, spec_ParseInt.j0 (k + 1) s (negB s) = spec_ParseInt.j1 k s (negB s) (restB s (negB s)) := fun k => by
      simp only [spec_ParseInt.j0]
      unfold restB
      cases hn : negB s with
      | false => rfl
      | true =>
        have h0 : 0 < s.size := by
          unfold negB at hn
          rw [Bool.and_eq_true, decide_eq_true_iff] at hn
          exact hn.1
        rw [if_pos rfl, if_pos rfl, if_pos (by omega)]
    refine Ev.step e0 ?_
    unfold ansB
    generalize hneg : negB s = neg at hrs
    generalize ht : restB s neg = t at hrs
    have hdig := spec_digs t (by omega) t.size 0 (by omega)
    rw [List.drop_zero] at hdig
    refine Ev.step (fun k => by simp only [spec_ParseInt.j1]; rfl) ?_
    refine Ev.bind hdig ?_
    cases hd : (t.data.toList.all digB && decide (0 < t.size)) with
    | false =>
      simp only [Bool.false_eq_true, if_false]
      refine Ev.step (f := fun _ => some (0, false)) (fun k => ?_) (Ev.now _)
      simp only [spec_ParseInt.j2]
      rw [if_pos trivial]
    | true =>
      simp only [if_true]
      rw [Bool.and_eq_true] at hd
      by_cases h19 : t.size > 19
      · rw [if_pos h19]
        refine Ev.step (f := fun _ => some (0, false)) (fun k => ?_) (Ev.now _)
        simp only [spec_ParseInt.j2]
        rw [if_pos (decide_eq_true (by omega))]
      · rw [if_neg h19]
        have hl := spec_parse_loop s t neg (by omega) t.size 0 0 (by omega) (by decide) (by rw [List.drop_zero]; exact hd.1)
        rw [List.drop_zero] at hl
        refine Ev.step (fun k => ?_) hl
        simp only [spec_ParseInt.j2]
        rw [if_neg (by rw [decide_eq_true_iff]; omega)]
        rfl
  refine Ev.congr (fun k => ?_) hj
  unfold spec_ParseInt.f
  by_cases h0 : (s.size : Int) > 0
  · have hn : negB s = (bt s 0 == 45) := by
      unfold negB
      rw [decide_eq_true (by omega), Bool.true_and]
    rw [if_pos h0, if_pos (by omega), hn]
  · have hn : negB s = false := by
      unfold negB
      rw [decide_eq_false (by omega), Bool.false_and]
    rw [if_neg h0, hn]

theorem parse_mag : ∀ (l : List UInt8) (a : Nat), l.all digB = true → valF a l < 18446744073709551616 → Lib.parseUint10 a l = .ok (valF a l)
  | [], a, _, _ => rfl
  | c :: r, a, h, hv => by
    rw [List.all_cons, Bool.and_eq_true, digB_iff] at h
    unfold valF at hv ⊢
    have hge := valF_ge r (a * 10 + (c.toNat - 48))
    unfold Lib.parseUint10
    rw [if_pos h.1, if_neg (by omega), if_neg (by omega)]
    exact parse_mag r _ h.2 hv
theorem atoi_itoa (v : Int) (h0 : -9223372036854775808 ≤ v) (h1 : v ≤ 9223372036854775807) : Lib.atoiAll (Lib.itoa v) = .ok v := by
  unfold Lib.itoa
  by_cases hv : v < 0
  · rw [if_pos hv]
    obtain ⟨h2, h3, h4⟩ := dec_val 20 v.natAbs (by omega)
    have hp : Lib.parseMag (Lib.decDigits v.natAbs) = .ok v.natAbs := by
      unfold Lib.parseMag
      rw [if_neg h4, parse_mag _ 0 h3 (by omega), h2]
    unfold Lib.atoiAll
    have e45 : (45 : UInt8).toNat = 45 := rfl
    simp only [e45, or_true, if_true, hp, not_true_eq_false, false_and, if_false, true_and]
    rw [if_neg (by omega)]
    congr 1
    omega
  · rw [if_neg hv]
    obtain ⟨h2, h3, h4⟩ := dec_val 20 v.toNat (by omega)
    have hp : Lib.parseMag (Lib.decDigits v.toNat) = .ok v.toNat := by
      unfold Lib.parseMag
      rw [if_neg h4, parse_mag _ 0 h3 (by omega), h2]
    cases hd : Lib.decDigits v.toNat with
    | nil => exact absurd hd h4
    | cons c r =>
      rw [hd] at h3 hp
      rw [List.all_cons, Bool.and_eq_true, digB_iff] at h3
      unfold Lib.atoiAll
      have n45 : ¬ c.toNat = 45 := by omega
      have n43 : ¬ c.toNat = 43 := by omega
      simp only [n45, n43, or_self, if_false, hp, not_false_eq_true, true_and, false_and]
      rw [if_neg (by omega)]
      congr 1
      omega
theorem ans_yes (s : ByteArray) (v : Int) (h0 : -9223372036854775808 ≤ v) (h1 : v ≤ 9223372036854775807) (hs : Lib.itoa v = s.data.toList) : ansB s = (v, true) := by
  have hsz : s.data.toList.length = s.size := rfl
  have hs' := hs
  unfold Lib.itoa at hs'
  by_cases hv : v < 0
  · rw [if_pos hv] at hs'
    obtain ⟨h2, h3, h4⟩ := dec_val 20 v.natAbs (by omega)
    have hlen := dec_length 18 v.natAbs (by omega)
    have hpos : 0 < s.size := by rw [← hsz, ← hs', List.length_cons]; omega
    have hneg : negB s = true := by
      unfold negB
      rw [decide_eq_true hpos, Bool.true_and, beq_iff_eq]
      have hb := bt_l s 0 (by omega)
      have e : s.data.toList[0]'(by omega) = 45 := by simp only [← hs']; rfl
      rw [e] at hb
      exact hb
    have hrest : (restB s true).data.toList = Lib.decDigits v.natAbs := by
      unfold restB
      rw [if_pos rfl, Lib.extract_data, ← hs']
      simp
      have : s.size - 1 = (Lib.decDigits v.natAbs).length := by rw [← hsz, ← hs', List.length_cons]; omega
      rw [this]
      exact List.take_of_length_le (Nat.le_refl _)
    have hrs : (restB s true).size = (Lib.decDigits v.natAbs).length := by rw [← hrest]; rfl
    have hl0 : 0 < (Lib.decDigits v.natAbs).length := List.length_pos_iff.mpr h4
    unfold ansB
    rw [hneg, hrest, hrs, h3, h2, decide_eq_true hl0, if_pos (show (true && true) = true from rfl), if_neg (by omega), if_pos (by omega)]
    unfold finB
    rw [if_pos rfl, show -((v.natAbs : Nat) : Int) = v by omega, if_pos hs]
  · rw [if_neg hv] at hs'
    obtain ⟨h2, h3, h4⟩ := dec_val 20 v.toNat (by omega)
    have hlen := dec_length 18 v.toNat (by omega)
    have hl0 : 0 < (Lib.decDigits v.toNat).length := List.length_pos_iff.mpr h4
    have hpos : 0 < s.size := by rw [← hsz, ← hs']; exact hl0
    have hneg : negB s = false := by
      unfold negB
      rw [decide_eq_true hpos, Bool.true_and, beq_eq_false_iff_ne]
      have hb := bt_l s 0 (by omega)
      have hd : digB (s.data.toList[0]'(by omega)) = true := by
        rw [hs'] at h3
        exact List.all_eq_true.mp h3 _ (List.getElem_mem (by omega))
      rw [digB_iff] at hd
      intro he
      rw [show ((0 : Nat) : Int) = 0 from rfl] at hb
      rw [hb] at he
      omega
    have hrest : (restB s false).data.toList = Lib.decDigits v.toNat := by
      unfold restB
      rw [if_neg (by decide), hs']
    have hrs : (restB s false).size = (Lib.decDigits v.toNat).length := by rw [← hrest]; rfl
    unfold ansB
    rw [hneg, hrest, hrs, h3, h2, decide_eq_true hl0, if_pos (show (true && true) = true from rfl), if_neg (by omega), if_pos (by omega)]
    unfold finB
    rw [if_neg (by decide), if_neg (by omega), show ((v.toNat : Nat) : Int) = v by omega, if_pos hs]
theorem ans_no (s : ByteArray) (h : ¬ ∃ v : Int, -9223372036854775808 ≤ v ∧ v ≤ 9223372036854775807 ∧ Lib.itoa v = s.data.toList) : ansB s = (0, false) := by
  unfold ansB
  split
  · split
    · rfl
    · split
      · rename_i hm
        unfold finB
        split
        · rw [if_neg (fun e => h ⟨_, by omega, by omega, e⟩)]
        · split
          · rfl
          · rw [if_neg (fun e => h ⟨_, by omega, by omega, e⟩)]
      · rfl
  · rfl
theorem parsed_yes (s : ByteArray) (v : Int) (h0 : -9223372036854775808 ≤ v) (h1 : v ≤ 9223372036854775807) (hs : Lib.itoa v = s.data.toList) : parsed s = (v, true) := by
  have ha := atoi_itoa v h0 h1
  rw [hs] at ha
  unfold parsed
  rw [ha]
  simp only [hs, if_true]
theorem parsed_no (s : ByteArray) (h : ¬ ∃ v : Int, -9223372036854775808 ≤ v ∧ v ≤ 9223372036854775807 ∧ Lib.itoa v = s.data.toList) : parsed s = (0, false) := by
  unfold parsed
  cases ha : Lib.atoiAll s.data.toList
  · rename_i v
    have hb := Lib.atoiAll_bounds ha
    have hne : ¬ Lib.itoa v = s.data.toList := fun e => h ⟨v, hb.1, hb.2, e⟩
    simp only [hne, if_false]
  · rfl
  · rfl
theorem ans_parsed (s : ByteArray) : ansB s = parsed s := by
  by_cases h : ∃ v : Int, -9223372036854775808 ≤ v ∧ v ≤ 9223372036854775807 ∧ Lib.itoa v = s.data.toList
  · obtain ⟨v, h0, h1, hs⟩ := h
    rw [ans_yes s v h0 h1 hs, parsed_yes s v h0 h1 hs]
  · rw [ans_no s h, parsed_no s h]

end Go.Proofs.YthfjphkhpfmdcaaGreatDoor.Pure
