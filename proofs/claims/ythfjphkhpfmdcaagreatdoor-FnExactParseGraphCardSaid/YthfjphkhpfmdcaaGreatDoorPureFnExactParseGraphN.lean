/- ParseGraph of the program and ParseGraph of the reference read the same graph out of every string; no condition. -/
import Derived.Test.YthfjphkhpfmdcaaGreatDoorQx5N
import Derived.Test.YthfjphkhpfmdcaaGreatDoorQx18N
import Derived.Test.YthfjphkhpfmdcaaGreatDoorPJoinN
import Derived.Test.YthfjphkhpfmdcaaGreatDoorPFmtGN
import Derived.Test.YthfjphkhpfmdcaaGreatDoorPSplitN
import Derived.Test.YthfjphkhpfmdcaaGreatDoorPParseN
import Derived.Test.YthfjphkhpfmdcaaGreatDoorPDigitsN
import Derived.Test.YthfjphkhpfmdcaaGreatDoorMarksGN
import Derived.Test.YthfjphkhpfmdcaaGreatDoorXGraphsN
import Derived.Test.YthfjphkhpfmdcaaGreatDoorXVertexN
namespace Go.Proofs.YthfjphkhpfmdcaaGreatDoor.Pure
open Go.RowKit Go.Proofs.YthfjphkhpfmdcaaGreatDoor.Q Go.Proofs.YthfjphkhpfmdcaaGreatDoorW.PrintWords Go.Proofs.YthfjphkhpfmdcaaGreatDoorW.PrintLast Go.Proofs.YthfjphkhpfmdcaaGreatDoorW.PrintMore

/-- A graph and whether it was read. -/
abbrev Ans : Type := Int × List Int × Bool
theorem piece_size (s by_ : ByteArray) : ∀ (d : Nat) (i fr : Int) (out : List ByteArray), (∀ x ∈ out, x.size ≤ s.size) → ∀ x ∈ pieces s by_ d i fr out, x.size ≤ s.size
  | 0, i, fr, out, h, x, hx => by
    unfold pieces at hx
    rcases List.mem_append.mp hx with hx | hx
    · exact h x hx
    · rw [List.mem_singleton.mp hx, ByteArray.size_extract]
      omega
  | d + 1, i, fr, out, h, x, hx => by
    unfold pieces at hx
    split at hx
    · refine piece_size s by_ d (i + 1) (i + 1) _ (fun y hy => ?_) x hx
      rcases List.mem_append.mp hy with hy | hy
      · exact h y hy
      · rw [List.mem_singleton.mp hy, ByteArray.size_extract]
        omega
    · exact piece_size s by_ d (i + 1) fr out h x hx
theorem rdOf_at (l : List ByteArray) (i : Nat) (h : i < l.length) : rdOf ByteArray.empty l (i : Int) = l[i] := by
  unfold rdOf
  rw [Int.toNat_natCast, List.getD_eq_getElem?_getD, List.getElem?_eq_getElem h]
  rfl

theorem empty_in : ∀ n : Fin 8, impl_EmptyGraph.f 100 ((n.val + 1 : Nat) : Int) = some (((n.val + 1 : Nat) : Int), List.replicate (n.val + 1) 0, true) := by decide +kernel
theorem empty_yes (n : Nat) (h1 : 1 ≤ n) (h8 : n ≤ 8) : Ev (fun k => impl_EmptyGraph.f k (n : Int)) ((n : Int), List.replicate n 0, true) := by
  have h := empty_in ⟨n - 1, by omega⟩
  have e : (⟨n - 1, by omega⟩ : Fin 8).val + 1 = n := by show n - 1 + 1 = n; omega
  rw [e] at h
  exact Ev.of (fun k => impl_EmptyGraph.mono (n : Int) k) h
theorem empty_no (v : Int) (h : v < 1 ∨ 8 < v) (k : Nat) : impl_EmptyGraph.f k v = some (0, [], false) := by
  have h0 : impl_in.f v 1 8 = some false := by
    rw [impl_in_is]
    congr 1
    rw [Bool.eq_false_iff]
    intro e
    rw [Bool.and_eq_true, decide_eq_true_eq, decide_eq_true_eq] at e
    omega
  unfold impl_EmptyGraph.f impl_graphOf.f
  rw [h0]
  rfl
theorem spec_empty_yes (n : Nat) (h1 : 1 ≤ n) (h8 : n ≤ 8) : spec_EmptyGraph.f (n : Int) = some ((n : Int), List.replicate n 0, true) := by
  unfold spec_EmptyGraph.f
  rw [spec_in, Option.bind_some, if_pos (by rw [Bool.and_eq_true, decide_eq_true_eq, decide_eq_true_eq]; omega), if_pos (by omega), Int.toNat_natCast, if_pos (by omega)]
theorem spec_empty_no (v : Int) (h : v < 1 ∨ 8 < v) : spec_EmptyGraph.f v = some (0, [], false) := by
  have h0 : spec_l01In.f v 1 8 = some false := by
    rw [spec_in]
    congr 1
    rw [Bool.eq_false_iff]
    intro e
    rw [Bool.and_eq_true, decide_eq_true_eq, decide_eq_true_eq] at e
    omega
  unfold spec_EmptyGraph.f
  rw [h0]
  rfl

theorem vertex_eq (n : Nat) (h : n ≤ 8) (x : Int) : vertexIs (n : Int) x = (decide (0 ≤ x) && decide (x < (n : Int))) := by
  unfold vertexIs
  rw [wrap_close ((n : Int) - 1) (by omega) (by omega)]
  congr 1
  exact decide_eq_decide.mpr (by omega)
theorem two_vertices (s : Int) (l : List Int) (n : Nat) (hs : s = (n : Int)) (h8 : n ≤ 8) (x y : Int) : impl_Graph_isVertex.f s l [x, y] = some ((decide (0 ≤ x) && decide (x < (n : Int))) && (decide (0 ≤ y) && decide (y < (n : Int)))) := by
  unfold impl_Graph_isVertex.f
  rw [if_pos (by simp), hs]
  simp only [List.all_cons, List.all_nil, Bool.and_true, vertex_eq n h8]
/-- The digits of a word of two letters. -/
theorem two_digits (x : ByteArray) (h : x.size = 2) : impl_IsDigits.f x = some ((decide (48 ≤ bt x 0) && decide (bt x 0 ≤ 57)) && (decide (48 ≤ bt x 1) && decide (bt x 1 ≤ 57))) := by
  have hl : x.data.toList.length = 2 := by rw [data_length]; exact h
  rw [impl_digits x (by omega)]
  have h0 := bt_at x ((0 : Nat) : Int) (by show 0 < x.size; omega)
  have h1 := bt_at x ((1 : Nat) : Int) (by show 1 < x.size; omega)
  obtain ⟨⟨l⟩⟩ := x
  match l, hl with
  | [a, b], _ =>
    have e0 : bt ⟨⟨[a, b]⟩⟩ 0 = ((a.toNat : Nat) : Int) := h0.symm
    have e1 : bt ⟨⟨[a, b]⟩⟩ 1 = ((b.toNat : Nat) : Int) := h1.symm
    rw [e0, e1]
    show some ((digS a && (digS b && true)) && decide (0 < 2)) = _
    unfold digS
    have q1 : decide ((48 : Int) ≤ ((a.toNat : Nat) : Int)) = decide (48 ≤ a.toNat) := decide_eq_decide.mpr (by omega)
    have q2 : decide (((a.toNat : Nat) : Int) ≤ 57) = decide (a.toNat ≤ 57) := decide_eq_decide.mpr (by omega)
    have q3 : decide ((48 : Int) ≤ ((b.toNat : Nat) : Int)) = decide (48 ≤ b.toNat) := decide_eq_decide.mpr (by omega)
    have q4 : decide (((b.toNat : Nat) : Int) ≤ 57) = decide (b.toNat ≤ 57) := decide_eq_decide.mpr (by omega)
    rw [q1, q2, q3, q4]
    simp

/-- What both loops give. -/
theorem loops (s0 : ByteArray) (ws : List ByteArray) (hw : ws.length ≤ 10000000) (s : Int) (n : Nat) : ∀ (d i : Nat) (g : List Int), i + d = ws.length → Valid s g n →
    ∃ R : Ans, R.2.1.length ≤ 8 ∧ Ev (fun k => spec_ParseGraph.l0 k s0 (n : Int) ws (ws.length : Int) (i : Int) s g) R ∧ Ev (fun k => impl_ParseGraph.l0 k s0 ws (ws.length : Int) (i : Int) s g) R
  | 0, i, g, hd, V => by
    have hn := V.hi
    have hlen := V.len
    have hsp := spec_text V
    have him := impl_text V
    refine ⟨if (textOf g n).toList = s0.toList then (s, g, true) else (0, [], false), by split <;> simp [hlen, hn], ?_, ?_⟩
    · refine Ev.step (fun k => by simp only [spec_ParseGraph.l0]; rw [if_neg (by omega)]) ?_
      refine Ev.bind hsp ?_
      split
      · exact Ev.now _
      · exact Ev.now _
    · refine Ev.step (fun k => by simp only [impl_ParseGraph.l0]; rw [if_neg (by omega)]) ?_
      refine Ev.bind him ?_
      split
      · exact Ev.now _
      · exact Ev.now _
  | d + 1, i, g, hd, V => by
    have hn := V.hi
    have hs := V.size
    have hi : i < ws.length := by omega
    have hnx : wrap64 ((i : Int) + 1) = ((i + 1 : Nat) : Int) := by rw [wrap_close _ (by omega) (by omega)]; omega
    have hat := rdOf_at ws i hi
    generalize ws[i] = x at hat
    have E1 : ∀ k, spec_ParseGraph.l0 (k + 1) s0 (n : Int) ws (ws.length : Int) (i : Int) s g = (if (x.size : Int) = 2 then (if 0 < (x.size : Int) then (if bt x 0 < 48 then (some (0, ([] : List Int), false)) else (if 1 < (x.size : Int) then (if bt x 1 < 48 then (some (0, ([] : List Int), false)) else (if ((bt x 0) - 48) % 256 ≥ (n : Int) then (some (0, ([] : List Int), false)) else (if ((bt x 1) - 48) % 256 ≥ (n : Int) then (some (0, ([] : List Int), false)) else (if bt x 0 = bt x 1 then (some (0, ([] : List Int), false)) else ((spec_l02Join.f s g (((bt x 0) - 48) % 256) (((bt x 1) - 48) % 256)).bind fun t180 => (spec_ParseGraph.l0 k s0 (n : Int) ws (ws.length : Int) ((i + 1 : Nat) : Int) s t180)))))) else (none))) else (none)) else (some (0, ([] : List Int), false))) := fun k => by
      simp only [spec_ParseGraph.l0]
      rw [if_pos (by omega), if_pos (by omega), if_pos (by omega), hat, hnx]
    have E2 : ∀ k, impl_ParseGraph.l0 (k + 1) s0 ws (ws.length : Int) (i : Int) s g = (if (x.size : Int) = 2 then ((impl_IsDigits.f x).bind fun t237 => (impl_ParseGraph.j1 k s0 x ws (ws.length : Int) (i : Int) (!t237) s g)) else (impl_ParseGraph.j1 k s0 x ws (ws.length : Int) (i : Int) true s g)) := fun k => by
      simp only [impl_ParseGraph.l0]
      rw [if_pos (by omega), if_pos (by omega), if_pos (by omega), hat]
    have no : ∀ b, b = true → Ev (fun k => impl_ParseGraph.j1 k s0 x ws (ws.length : Int) (i : Int) b s g) ((0, [], false) : Ans) := fun b hb => by
      subst hb
      exact Ev.step (f := fun _ => some (0, [], false)) (fun k => by simp only [impl_ParseGraph.j1]; rw [if_pos trivial]) (Ev.now _)
    by_cases h2 : (x.size : Int) = 2
    · have hx2 : x.size = 2 := by omega
      have hdg := two_digits x hx2
      have hb0 := bt_range x 0
      have hb1 := bt_range x 1
      by_cases hdig : (48 ≤ bt x 0 ∧ bt x 0 ≤ 57) ∧ (48 ≤ bt x 1 ∧ bt x 1 ≤ 57)
      · obtain ⟨⟨h01, h02⟩, h11, h12⟩ := hdig
        rw [decide_eq_true h01, decide_eq_true h02, decide_eq_true h11, decide_eq_true h12] at hdg
        obtain ⟨v, hv⟩ : ∃ v : Nat, ((bt x 0) - 48) % 256 = (v : Int) := ⟨(((bt x 0) - 48) % 256).toNat, by omega⟩
        obtain ⟨w, hw'⟩ : ∃ w : Nat, ((bt x 1) - 48) % 256 = (w : Int) := ⟨(((bt x 1) - 48) % 256).toNat, by omega⟩
        have E2' : ∀ k, impl_ParseGraph.l0 (k + 2) s0 ws (ws.length : Int) (i : Int) s g = ((impl_Graph_isVertex.f s g ([(v : Int), (w : Int)] : List Int)).bind fun t241 => (if t241 = true then (if (v : Int) = (w : Int) then (some (0, ([] : List Int), false)) else ((impl_Graph_join.f s g (v : Int) (w : Int)).bind fun t242 => (impl_ParseGraph.l0 k s0 ws (ws.length : Int) ((i + 1 : Nat) : Int) s t242))) else (some (0, ([] : List Int), false)))) := fun k => by
          rw [E2 (k + 1), if_pos h2, hdg, Option.bind_some]
          simp only [impl_ParseGraph.j1]
          rw [if_neg (by decide), if_pos (by omega), if_pos (by omega), hv, hw', hnx]
        have E1' : ∀ k, spec_ParseGraph.l0 (k + 1) s0 (n : Int) ws (ws.length : Int) (i : Int) s g = (if (v : Int) ≥ (n : Int) then (some (0, ([] : List Int), false)) else (if (w : Int) ≥ (n : Int) then (some (0, ([] : List Int), false)) else (if bt x 0 = bt x 1 then (some (0, ([] : List Int), false)) else ((spec_l02Join.f s g (v : Int) (w : Int)).bind fun t180 => (spec_ParseGraph.l0 k s0 (n : Int) ws (ws.length : Int) ((i + 1 : Nat) : Int) s t180))))) := fun k => by
          rw [E1 k, if_pos h2, if_pos (by omega), if_neg (by omega), if_pos (by omega), if_neg (by omega), hv, hw']
        rw [two_vertices s g n hs hn] at E2'
        have step2 : ∀ {f : Nat → Option Ans} {R : Ans}, (∀ k, impl_ParseGraph.l0 (k + 2) s0 ws (ws.length : Int) (i : Int) s g = f k) → Ev f R → Ev (fun k => impl_ParseGraph.l0 k s0 ws (ws.length : Int) (i : Int) s g) R := fun {f R} hf hE => by
          obtain ⟨K, hK⟩ := hE
          refine ⟨K + 2, fun k hk => ?_⟩
          obtain ⟨m, rfl⟩ : ∃ m, k = m + 2 := ⟨k - 2, by omega⟩
          show impl_ParseGraph.l0 (m + 2) s0 ws (ws.length : Int) (i : Int) s g = _
          rw [hf m]
          exact hK m (by omega)
        by_cases hvn : v < n
        · by_cases hwn : w < n
          · by_cases hvw : v = w
            · have hbb : bt x 0 = bt x 1 := by omega
              refine ⟨(0, [], false), by simp, Ev.step (f := fun _ => some (0, [], false)) (fun k => ?_) (Ev.now _), step2 (f := fun _ => some (0, [], false)) (fun k => ?_) (Ev.now _)⟩
              · rw [E1' k, if_neg (by omega), if_neg (by omega), if_pos hbb]
              · rw [E2' k, Option.bind_some, if_pos (by simp; omega), if_pos (by omega)]
            · have hbb : ¬ bt x 0 = bt x 1 := by omega
              obtain ⟨g', V', hj1, hj2⟩ := join_both V hvn hwn hvw
              obtain ⟨R, hR, h1, h3⟩ := loops s0 ws hw s n d (i + 1) g' (by omega) V'
              refine ⟨R, hR, Ev.step (fun k => ?_) h1, step2 (fun k => ?_) h3⟩
              · rw [E1' k, if_neg (by omega), if_neg (by omega), if_neg hbb, hj1, Option.bind_some]
              · rw [E2' k, Option.bind_some, if_pos (by simp; omega), if_neg (by omega), hj2, Option.bind_some]
          · refine ⟨(0, [], false), by simp, Ev.step (f := fun _ => some (0, [], false)) (fun k => ?_) (Ev.now _), step2 (f := fun _ => some (0, [], false)) (fun k => ?_) (Ev.now _)⟩
            · rw [E1' k, if_neg (by omega), if_pos (by omega)]
            · rw [E2' k, Option.bind_some, if_neg (by simp; omega)]
        · refine ⟨(0, [], false), by simp, Ev.step (f := fun _ => some (0, [], false)) (fun k => ?_) (Ev.now _), step2 (f := fun _ => some (0, [], false)) (fun k => ?_) (Ev.now _)⟩
          · rw [E1' k, if_pos (by omega)]
          · rw [E2' k, Option.bind_some, if_neg (by simp; omega)]
      · have hdf : impl_IsDigits.f x = some false := by
          rw [hdg]
          congr 1
          rw [Bool.eq_false_iff]
          intro e
          simp only [Bool.and_eq_true, decide_eq_true_eq] at e
          exact hdig e
        refine ⟨(0, [], false), by simp, Ev.step (f := fun _ => some (0, [], false)) (fun k => ?_) (Ev.now _), Ev.step (fun k => by rw [E2 k, if_pos h2, hdf, Option.bind_some]) (no (!false) rfl)⟩
        rw [E1 k, if_pos h2, if_pos (by omega)]
        by_cases q1 : bt x 0 < 48
        · rw [if_pos q1]
        · rw [if_neg q1, if_pos (by omega)]
          by_cases q2 : bt x 1 < 48
          · rw [if_pos q2]
          · rw [if_neg q2]
            by_cases q3 : ((bt x 0) - 48) % 256 ≥ (n : Int)
            · rw [if_pos q3]
            · rw [if_neg q3, if_pos (by omega)]
    · refine ⟨(0, [], false), by simp, Ev.step (f := fun _ => some (0, [], false)) (fun k => ?_) (Ev.now _), Ev.step (fun k => by rw [E2 k, if_neg h2]) (no true rfl)⟩
      rw [E1 k, if_neg h2]

/-- What both functions give. -/
theorem both_parse (s : ByteArray) (hs : s.size ≤ 1000000) : ∃ R : Ans, R.2.1.length ≤ 8 ∧ Ev (fun k => spec_ParseGraph.f k s) R ∧ Ev (fun k => impl_ParseGraph.f k s) R := by
  have h1 : Ev (fun k => spec_SplitAny.f k s ⟨#[32]⟩) (pieces s ⟨#[32]⟩ s.size 0 0 []) := ⟨s.size * 3 + 1, fun k hk => spec_pieces s ⟨#[32]⟩ (by omega) (by decide) s.size 0 0 [] k (by omega) (by omega) (by omega) (by simp) (by show s.size * 3 < k; omega)⟩
  have h2 : strings_Split.f s ⟨#[32]⟩ = some (pieces s ⟨#[32]⟩ s.size 0 0 []) := by
    unfold strings_Split.f
    rw [if_pos ⟨by omega, rfl⟩, split_pieces]
  have hl := pieces_length s ⟨#[32]⟩ s.size 0 0 []
  simp only [List.length_nil] at hl
  have hsz := piece_size s ⟨#[32]⟩ s.size 0 0 [] (fun x hx => by cases hx)
  have hne : pieces s ⟨#[32]⟩ s.size 0 0 [] ≠ [] := by
    rw [← split_pieces]
    intro h
    have := Lib.splitB_all ⟨#[32]⟩ (Nat.le_refl 1) 0 _ s rfl
    rw [h] at this
    simp at this
  generalize pieces s ⟨#[32]⟩ s.size 0 0 [] = T at h1 h2 hl hsz hne
  have hpos : 0 < T.length := List.length_pos_iff.mpr hne
  have hat : rdOf ByteArray.empty T 0 = T[0] := rdOf_at T 0 hpos
  have hp0 := hsz T[0] (List.getElem_mem hpos)
  generalize T[0] = P at hat hp0
  have hdl : (T.drop 1).length ≤ 10000000 := by rw [List.length_drop]; omega
  have hsp := spec_parse P (by omega)
  have him : impl_ParseInt.f P = some (ansB P) := by
    unfold impl_ParseInt.f
    rw [if_pos (by omega), ans_parsed]
  have hans : (∃ v, ansB P = (v, true)) ∨ ansB P = (0, false) := by
    by_cases h : ∃ v : Int, -9223372036854775808 ≤ v ∧ v ≤ 9223372036854775807 ∧ Lib.itoa v = P.data.toList
    · obtain ⟨v, a, b, c⟩ := h
      exact .inl ⟨v, ans_yes P v a b c⟩
    · exact .inr (ans_no P h)
  have S : ∀ {R : Ans}, Ev (fun k => if (ansB P).2 = true then ((spec_EmptyGraph.f (ansB P).1).bind fun bt169 => (if bt169.2.2 = true then (if 1 ≤ (T.length : Int) then ((some (T.drop 1 : List ByteArray)).bind fun y175 => (spec_ParseGraph.l0 k s (ansB P).1 y175 (y175.length : Int) 0 bt169.1 bt169.2.1)) else (none)) else (some (0, ([] : List Int), false)))) else (some (0, ([] : List Int), false))) R → Ev (fun k => spec_ParseGraph.f k s) R := fun {R} h => by
    unfold spec_ParseGraph.f
    refine Ev.bind h1 ?_
    refine Ev.congr (fun k => by rw [if_pos (by omega), hat]) ?_
    exact Ev.bind hsp h
  have I : ∀ {R : Ans}, Ev (fun k => (impl_EmptyGraph.f k (ansB P).1).bind fun bt225 => (if bt225.2.2 = true then (if 1 ≤ (T.length : Int) then ((some (T.drop 1 : List ByteArray)).bind fun y231 => (impl_ParseGraph.l0 k s y231 (y231.length : Int) 0 bt225.1 bt225.2.1)) else (none)) else (some (0, ([] : List Int), false)))) R → Ev (fun k => impl_ParseGraph.f k s) R := fun {R} h => by
    unfold impl_ParseGraph.f
    refine Ev.congr (fun k => by rw [h2, Option.bind_some, if_pos (by omega), hat, him, Option.bind_some]) h
  rcases hans with ⟨v, hv⟩ | hv
  · rw [hv] at S I
    by_cases hr : v < 1 ∨ 8 < v
    · refine ⟨(0, [], false), by simp, S ?_, I ?_⟩
      · refine Ev.congr (fun k => by rw [if_pos rfl, spec_empty_no v hr, Option.bind_some]) ?_
        exact Ev.now _
      · refine Ev.congr (fun k => by rw [empty_no v hr k, Option.bind_some]) ?_
        exact Ev.now _
    · obtain ⟨n, rfl⟩ : ∃ n : Nat, v = (n : Int) := ⟨v.toNat, by omega⟩
      obtain ⟨R, hR, e1, e2⟩ := loops s (T.drop 1) hdl (n : Int) n (T.drop 1).length 0 (List.replicate n 0) (by omega) (valid_empty n (by omega) (by omega))
      refine ⟨R, hR, S ?_, I ?_⟩
      · refine Ev.congr (fun k => ?_) e1
        rw [if_pos rfl, spec_empty_yes n (by omega) (by omega), Option.bind_some, if_pos rfl, if_pos (by omega), Option.bind_some]
        rfl
      · refine Ev.bind (empty_yes n (by omega) (by omega)) ?_
        refine Ev.congr (fun k => ?_) e2
        rw [if_pos rfl, if_pos (by omega), Option.bind_some]
        rfl
  · rw [hv] at S I
    refine ⟨(0, [], false), by simp, S ?_, I ?_⟩
    · exact Ev.congr (fun k => by rw [if_neg (by decide)]) (Ev.now _)
    · refine Ev.congr (fun k => by rw [empty_no 0 (by decide) k, Option.bind_some]) ?_
      exact Ev.now _

theorem eq_graph (R : Ans) (h : R.2.1.length ≤ 8) : Ev (fun k => laws_eqGraph.f k R.1 R.2.1 R.1 R.2.1) true := by
  unfold laws_eqGraph.f
  refine Ev.congr (fun k => if_pos rfl) ?_
  refine Ev.bind (eq_ev R.2.1 (by omega)) ?_
  exact Ev.now _

theorem FnExactParseGraph : laws_FnExactParseGraph.Pure := by
  intro s _
  refine Ev.rounds (r := true) ?_
  unfold laws_FnExactParseGraph.f
  by_cases hbig : (s.size : Int) > 1000000
  · exact Ev.congr (fun k => if_pos hbig) (Ev.now _)
  · refine Ev.congr (fun k => if_neg hbig) ?_
    obtain ⟨R, hR, h1, h2⟩ := both_parse s (by omega)
    have he := eq_graph R hR
    obtain ⟨m, y, hm0, hm, hy⟩ := mark_ev R.2.1 (by omega)
    have hmg : Ev (fun k => laws_markGraph.f k R.1 R.2.1 101) (m, y) := by
      unfold laws_markGraph.f
      exact Ev.bind hm (Ev.now _)
    have hhg : Ev (fun k => laws_heldGraph.f k R.1 y 101) m := by
      unfold laws_heldGraph.f
      refine Ev.bind hy ?_
      exact Ev.congr (fun k => if_neg hm0) (Ev.now _)
    have hj1 : Ev (fun k => laws_FnExactParseGraph.j1 k m false R.1 y) true := by
      refine Ev.step (fun k => by simp only [laws_FnExactParseGraph.j1]; rw [if_neg (show ¬ false = true by decide)]) ?_
      refine Ev.bind hhg ?_
      exact Ev.congr (fun k => by rw [if_neg hm0, if_pos rfl]) (Ev.now _)
    have hj0 : Ev (fun k => laws_FnExactParseGraph.j0 k s R.2.2 false R.1 R.2.1 R.1 R.2.1) true := by
      refine Ev.step (fun k => by simp only [laws_FnExactParseGraph.j0]; rw [if_neg (show ¬ false = true by decide)]) ?_
      refine Ev.bind hmg ?_
      refine Ev.bind hhg ?_
      refine Ev.congr (fun k => by rw [if_neg hm0, if_pos rfl]) ?_
      refine Ev.bind h2 ?_
      refine Ev.bind he ?_
      exact Ev.congr (fun k => by rw [if_pos rfl, bne_self_eq_false]) hj1
    refine Ev.bind h1 ?_
    refine Ev.bind h2 ?_
    refine Ev.bind he ?_
    exact Ev.congr (fun k => by rw [if_pos rfl, bne_self_eq_false]) hj0

end Go.Proofs.YthfjphkhpfmdcaaGreatDoor.Pure
