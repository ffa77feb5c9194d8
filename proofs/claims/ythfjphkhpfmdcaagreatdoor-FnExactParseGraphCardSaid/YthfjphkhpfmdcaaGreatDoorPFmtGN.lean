/- The text of a valid graph, by the program and by the reference; condition: a valid graph. -/
import Derived.Test.YthfjphkhpfmdcaaGreatDoorPOkN
import Derived.Test.YthfjphkhpfmdcaaGreatDoorPListSN
import Derived.Lib.Join
import Derived.Test.YthfjphkhpfmdcaaGreatDoorQx3N
import Derived.Test.YthfjphkhpfmdcaaGreatDoorQx10N
import Derived.Test.YthfjphkhpfmdcaaGreatDoorQx16N
namespace Go.Proofs.YthfjphkhpfmdcaaGreatDoor.Pure
open Go.RowKit Go.Proofs.YthfjphkhpfmdcaaGreatDoor.Q Go.Proofs.YthfjphkhpfmdcaaGreatDoorW.PrintWords Go.Proofs.YthfjphkhpfmdcaaGreatDoorW.PrintLast Go.Proofs.YthfjphkhpfmdcaaGreatDoorW.PrintMore

/-- The text of some letters. -/
def txt (l : List UInt8) : ByteArray := ⟨l.toArray⟩
/-- A digit. -/
def dig (v : Nat) : List UInt8 := [UInt8.ofNat (48 + v)]
theorem txt_size (l : List UInt8) : (txt l).size = l.length := by simp [txt, ByteArray.size]
theorem txt_data (l : List UInt8) : (txt l).data.toList = l := by simp [txt]
theorem txt_app (l m : List UInt8) : txt l ++ txt m = txt (l ++ m) := by
  apply ByteArray.ext
  apply Array.toList_inj.mp
  simp [txt, ByteArray.data_append]
theorem of_data {t : Option ByteArray} {l : List UInt8} (h : t.map (fun x => x.data.toList) = some l) : t = some (txt l) := by
  cases t with
  | none => cases h
  | some x =>
    have h' : x.data.toList = l := Option.some.inj h
    subst h'
    rfl
theorem spec_dig_all : ∀ v : Fin 10, (spec_FormatInt.f 5 ((v.val : Nat) : Int)).map (fun x => x.data.toList) = some (dig v.val) := by decide +kernel
theorem impl_dig_all : ∀ v : Fin 10, (impl_FormatInt.f ((v.val : Nat) : Int)).map (fun x => x.data.toList) = some (dig v.val) := by decide +kernel
theorem spec_dig (v : Nat) (h : v < 10) : Ev (fun k => spec_FormatInt.f k (v : Int)) (txt (dig v)) := Ev.of (fun k => spec_FormatInt.mono (v : Int) k) (of_data (spec_dig_all ⟨v, h⟩))
theorem impl_dig (v : Nat) (h : v < 10) : impl_FormatInt.f (v : Int) = some (txt (dig v)) := of_data (impl_dig_all ⟨v, h⟩)

/-- The words of row v, from w on among d. -/
def rowW (x v : Nat) : Nat → Nat → List (List UInt8)
  | _, 0 => []
  | w, d + 1 => if x.testBit w = true then (dig v ++ dig w) :: rowW x v (w + 1) d else rowW x v (w + 1) d
/-- The words of d rows from v on. -/
def allW (l : List Int) (n : Nat) : Nat → Nat → List (List UInt8)
  | _, 0 => []
  | v, d + 1 => rowW (rn l v) v (v + 1) (n - (v + 1)) ++ allW l n (v + 1) d
/-- The words of a list of vertices behind v. -/
def wordsOf (v : Nat) (bs : List Nat) : List (List UInt8) := (bs.filter fun w => decide (v < w)).map fun w => dig v ++ dig w
theorem words_late (x v : Nat) : ∀ (d i : Nat), v < i → wordsOf v (bitsFrom x i d) = rowW x v i d
  | 0, _, _ => rfl
  | d + 1, i, h => by
    have ih := words_late x v d (i + 1) (by omega)
    unfold bitsFrom rowW
    by_cases hb : x.testBit i = true
    · rw [if_pos hb, if_pos hb, ← ih]
      simp [wordsOf, h]
    · rw [if_neg hb, if_neg hb, ih]
theorem words_early (x v : Nat) : ∀ (d i : Nat), i ≤ v → v < i + d → wordsOf v (bitsFrom x i d) = rowW x v (v + 1) (i + d - (v + 1))
  | 0, _, _, h => by omega
  | d + 1, i, h, h2 => by
    have hdrop : wordsOf v (bitsFrom x i (d + 1)) = wordsOf v (bitsFrom x (i + 1) d) := by
      rw [show bitsFrom x i (d + 1) = if x.testBit i = true then i :: bitsFrom x (i + 1) d else bitsFrom x (i + 1) d from rfl]
      by_cases hb : x.testBit i = true
      · rw [if_pos hb]
        simp [wordsOf, show ¬ v < i by omega]
      · rw [if_neg hb]
    rw [hdrop]
    by_cases e : i = v
    · subst e
      rw [words_late x i d (i + 1) (by omega), show i + (d + 1) - (i + 1) = d by omega]
    · rw [words_early x v d (i + 1) (by omega) (by omega), show i + 1 + d - (v + 1) = i + (d + 1) - (v + 1) by omega]
theorem words_row (x n v : Nat) (hx : x < 2 ^ n) (hn : n ≤ 8) (hv : v < n) : wordsOf v (bitsOf x) = rowW x v (v + 1) (n - (v + 1)) := by
  rw [bitsOf_eq x n hx hn, words_early x v n 0 (by omega) (by omega), Nat.zero_add]

open Go.Lib in
theorem tail_cons (a : List UInt8) (r : List (List UInt8)) : joinTail [32] (a :: r) = [32] ++ a ++ joinTail [32] r := by simp [joinTail]
theorem words_step (v w : Nat) (rest : List Nat) (h : v < w) (u : List UInt8) (T : List (List UInt8)) : u ++ Lib.joinTail [32] (wordsOf v (w :: rest) ++ T) = (u ++ [32] ++ dig v ++ dig w) ++ Lib.joinTail [32] (wordsOf v rest ++ T) := by simp [wordsOf, h, Lib.joinTail]
theorem words_skip (v w : Nat) (rest : List Nat) (h : ¬ v < w) : wordsOf v (w :: rest) = wordsOf v rest := by simp [wordsOf, h]
theorem spec_row {s : Int} {l : List Int} {n v : Nat} (V : Valid s l n) (hv : v < n) (bs : List Nat) (hb : ∀ w ∈ bs, w < n) (h8 : bs.length ≤ 8) (T : List (List UInt8))
    (hnext : ∀ s' : List UInt8, s'.length ≤ 100 + 24 * (v + 1) → Ev (fun k => spec_FormatGraph.l0 k (txt s') l (n : Int) ((v + 1 : Nat) : Int)) (txt (s' ++ Lib.joinTail [32] T))) :
    ∀ (d i : Nat) (u : List UInt8), i + d = bs.length → u.length ≤ 100 + 24 * v + 3 * i → Ev (fun k => spec_FormatGraph.l1 k (txt u) (v : Int) l (n : Int) (v : Int) (ints bs) (bs.length : Int) (i : Int)) (txt (u ++ Lib.joinTail [32] (wordsOf v (bs.drop i) ++ T)))
  | 0, i, u, hd, hu => by
    rw [List.drop_of_length_le (by omega)]
    have h := hnext u (by omega)
    refine Ev.step (fun k => ?_) h
    simp only [spec_FormatGraph.l1]
    rw [if_neg (by omega), next v (by have := V.hi; omega)]
  | d + 1, i, u, hd, hu => by
    have hi : i < bs.length := by omega
    have hn := V.hi
    have hw := hb _ (List.getElem_mem hi)
    rw [List.drop_eq_getElem_cons hi]
    by_cases hvw : v < bs[i]
    · have ih := spec_row V hv bs hb h8 T hnext d (i + 1) (u ++ [32] ++ dig v ++ dig bs[i]) (by omega) (by simp [dig]; omega)
      rw [words_step v bs[i] (bs.drop (i + 1)) hvw u T]
      have h := Ev.bind (f := fun k t => if (txt u ++ (⟨#[32]⟩ : ByteArray)).size + t.size ≤ 9223372036854775807 then ((spec_FormatInt.f k ((bs[i] : Nat) : Int)).bind fun t359 => (if ((txt u ++ (⟨#[32]⟩ : ByteArray)) ++ t).size + t359.size ≤ 9223372036854775807 then (spec_FormatGraph.l1 k (((txt u ++ (⟨#[32]⟩ : ByteArray)) ++ t) ++ t359) (v : Int) l (n : Int) (v : Int) (ints bs) (bs.length : Int) (wrap64 ((i : Int) + 1))) else (none))) else none) (r := txt ((u ++ [32] ++ dig v ++ dig bs[i]) ++ Lib.joinTail [32] (wordsOf v (bs.drop (i + 1)) ++ T))) (spec_dig v (by omega)) (by
        rw [show (⟨#[32]⟩ : ByteArray) = txt [32] from rfl, txt_app, txt_app]
        have z1 : (txt (u ++ [32])).size + (txt (dig v)).size ≤ 9223372036854775807 := by simp only [txt_size, dig, List.length_append, List.length_cons, List.length_nil]; omega
        simp only [z1, if_true]
        refine Ev.bind (spec_dig bs[i] (by omega)) ?_
        have z2 : (txt (u ++ [32] ++ dig v)).size + (txt (dig bs[i])).size ≤ 9223372036854775807 := by simp only [txt_size, dig, List.length_append, List.length_cons, List.length_nil]; omega
        simp only [z2, if_true]
        rw [txt_app, next i (by omega)]
        exact ih)
      refine Ev.step (fun k => ?_) h
      simp only [spec_FormatGraph.l1]
      rw [if_pos (by omega), if_pos (by omega), if_pos (by rw [ints_length]; omega), ints_at bs i hi, if_pos (by omega), if_pos (by rw [txt_size]; omega)]
    · have ih := spec_row V hv bs hb h8 T hnext d (i + 1) u (by omega) (by omega)
      rw [words_skip v bs[i] (bs.drop (i + 1)) hvw]
      refine Ev.step (fun k => ?_) ih
      simp only [spec_FormatGraph.l1]
      rw [if_pos (by omega), if_pos (by omega), if_pos (by rw [ints_length]; omega), ints_at bs i hi, if_neg (by omega), next i (by omega)]

theorem spec_rows {s : Int} {l : List Int} {n : Nat} (V : Valid s l n) : ∀ (d v : Nat) (u : List UInt8), v + d = n → u.length ≤ 100 + 24 * v → Ev (fun k => spec_FormatGraph.l0 k (txt u) l (n : Int) (v : Int)) (txt (u ++ Lib.joinTail [32] (allW l n v d)))
  | 0, v, u, hd, hu => by
    refine Ev.step (f := fun _ => some (txt u)) (fun k => ?_) (by simpa [allW, Lib.joinTail] using Ev.now (txt u))
    simp only [spec_FormatGraph.l0]
    rw [if_neg (by omega)]
  | d + 1, v, u, hd, hu => by
    have hn := V.hi
    have hlen := V.len
    have hlt := V.lt v (by omega)
    have h256 := pow_le_256 n hn
    have h := spec_row V (v := v) (by omega) (bitsOf (rn l v)) (fun w hw => ((bitsOf_mem _ n w hlt hn).mp hw).1) (bitsOf_length _) (allW l n (v + 1) d) (fun s' hs' => spec_rows V d (v + 1) s' (by omega) hs') (bitsOf (rn l v)).length 0 u (by omega) (by omega)
    rw [List.drop_zero, words_row (rn l v) n v hlt hn (by omega)] at h
    have hb := Ev.bind (f := fun k t => spec_FormatGraph.l1 k (txt u) (v : Int) l (n : Int) (v : Int) t (t.length : Int) 0) (spec_list (rn l v) (by omega)) (by rw [ints_length]; exact h)
    refine Ev.step (fun k => ?_) hb
    simp only [spec_FormatGraph.l0]
    rw [if_pos (by omega), if_pos (by omega), if_pos (by omega), V.row v (by omega)]

theorem tail_len : ∀ (ws : List (List UInt8)), (∀ x ∈ ws, x.length ≤ 2) → (Lib.joinTail [32] ws).length ≤ 3 * ws.length
  | [], _ => by simp [Lib.joinTail]
  | a :: ws, h => by
    have ih := tail_len ws (fun x hx => h x (List.mem_cons_of_mem _ hx))
    have ha := h a List.mem_cons_self
    rw [tail_cons]
    simp only [List.length_append, List.length_cons, List.length_nil]
    omega
theorem join_is (a : List UInt8) (ws : List (List UInt8)) (hl : ws.length ≤ 1000) (h : ∀ x ∈ ws, x.length ≤ 2) (ha : a.length ≤ 2) : strings_Join.f ((a :: ws).map txt) (⟨#[32]⟩ : ByteArray) = some (txt (a ++ Lib.joinTail [32] ws)) := by
  unfold strings_Join.f
  have e : ((a :: ws).map txt).map (fun x => x.data.toList) = a :: ws := by
    rw [List.map_map]
    have : ((fun x : ByteArray => x.data.toList) ∘ txt) = id := by funext x; exact txt_data x
    rw [this, List.map_id]
  have z := tail_len ws h
  rw [e, show (⟨#[32]⟩ : ByteArray).data.toList = [32] from rfl, Lib.join_cons, if_pos ⟨by simp; omega, by rw [List.length_append]; omega⟩]
  rfl
theorem impl_rows {s : Int} {l : List Int} {n : Nat} (V : Valid s l n) (a : List UInt8) (ha : a.length ≤ 2) : ∀ (d v : Nat) (ws : List (List UInt8)), v + d = n → ws.length ≤ 8 * v → (∀ x ∈ ws, x.length ≤ 2) →
    Ev (fun k => impl_formatGraph.l0 k ((a :: ws).map txt) (n : Int) (v : Int) (n : Int) l) (txt (a ++ Lib.joinTail [32] (ws ++ allW l n v d)))
  | 0, v, ws, hd, hw, h2 => by
    have hn := V.hi
    refine Ev.step (f := fun _ => some (txt (a ++ Lib.joinTail [32] ws))) (fun k => ?_) (by simpa [allW] using Ev.now _)
    simp only [impl_formatGraph.l0]
    rw [if_neg (by omega), join_is a ws (by omega) h2 ha]
    rfl
  | d + 1, v, ws, hd, hw, h2 => by
    have hn := V.hi
    have hlen := V.len
    have hlt := V.lt v (by omega)
    have row : ∀ (d2 w : Nat) (us : List (List UInt8)), w + d2 = n → v < w → us.length ≤ 8 * v + w → (∀ x ∈ us, x.length ≤ 2) → Ev (fun k => impl_formatGraph.l1 k ((a :: us).map txt) (v : Int) (w : Int) (n : Int) (v : Int) (n : Int) l) (txt (a ++ Lib.joinTail [32] (us ++ (rowW (rn l v) v w d2 ++ allW l n (v + 1) d)))) := by
      intro d2
      induction d2 with
      | zero =>
        intro w us h1 h3 h4 h5
        have ih := impl_rows V a ha d (v + 1) us (by omega) (by omega) h5
        refine Ev.step (fun k => ?_) ih
        simp only [impl_formatGraph.l1]
        rw [if_neg (by omega), next v (by omega)]
      | succ d2 ih2 =>
        intro w us h1 h3 h4 h5
        by_cases hb : (rn l v).testBit w = true
        · have ih := ih2 (w + 1) (us ++ [dig v ++ dig w]) (by omega) (by omega) (by simp; omega) (fun x hx => by
            rcases List.mem_append.mp hx with hx | hx
            · exact h5 x hx
            · rw [List.mem_singleton.mp hx]; simp [dig])
          have e : us ++ (rowW (rn l v) v w (d2 + 1) ++ allW l n (v + 1) d) = (us ++ [dig v ++ dig w]) ++ (rowW (rn l v) v (w + 1) d2 ++ allW l n (v + 1) d) := by
            rw [show rowW (rn l v) v w (d2 + 1) = if (rn l v).testBit w = true then (dig v ++ dig w) :: rowW (rn l v) v (w + 1) d2 else rowW (rn l v) v (w + 1) d2 from rfl, if_pos hb]
            simp only [List.append_assoc, List.cons_append, List.nil_append]
          rw [e]
          refine Ev.step (fun k => ?_) ih
          simp only [impl_formatGraph.l1]
          rw [if_pos (by omega), if_pos (by omega), if_pos (by omega), V.row v (by omega), impl_has_is _ w (small _ n hlt hn) (by omega), Option.bind_some, if_pos hb, impl_dig v (by omega), Option.bind_some, impl_dig w (by omega), Option.bind_some, if_pos (by rw [txt_size, txt_size]; simp [dig]), if_pos (by simp; omega), txt_app, next w (by omega)]
          simp only [List.map_cons, List.map_append, List.map_nil, List.cons_append]
        · have ih := ih2 (w + 1) us (by omega) (by omega) (by omega) h5
          have e : rowW (rn l v) v w (d2 + 1) = rowW (rn l v) v (w + 1) d2 := by
            rw [show rowW (rn l v) v w (d2 + 1) = if (rn l v).testBit w = true then (dig v ++ dig w) :: rowW (rn l v) v (w + 1) d2 else rowW (rn l v) v (w + 1) d2 from rfl, if_neg hb]
          rw [e]
          refine Ev.step (fun k => ?_) ih
          simp only [impl_formatGraph.l1]
          rw [if_pos (by omega), if_pos (by omega), if_pos (by omega), V.row v (by omega), impl_has_is _ w (small _ n hlt hn) (by omega), Option.bind_some, if_neg hb, next w (by omega)]
    have h := row (n - (v + 1)) (v + 1) ws (by omega) (by omega) (by omega) h2
    refine Ev.step (fun k => ?_) h
    simp only [impl_formatGraph.l0]
    rw [if_pos (by omega), next v (by omega)]

/-- The text of a graph. -/
def textOf (l : List Int) (n : Nat) : ByteArray := txt (dig n ++ Lib.joinTail [32] (allW l n 0 n))
theorem spec_text {s : Int} {l : List Int} {n : Nat} (V : Valid s l n) : Ev (fun k => spec_FormatGraph.f k s l) (textOf l n) := by
  have hn := V.hi
  have hs := V.size
  have hl := V.len
  have hok : okB s l = true := by rw [okB_iff, hl]; exact V
  have h := spec_ok s l
  rw [hok] at h
  unfold spec_FormatGraph.f
  refine Ev.bind h ?_
  rw [hs, hl]
  exact Ev.bind (spec_dig n (by omega)) (spec_rows V n 0 (dig n) (by omega) (by simp [dig]))
theorem impl_text {s : Int} {l : List Int} {n : Nat} (V : Valid s l n) : Ev (fun k => impl_formatGraph.f k s l) (textOf l n) := by
  have hn := V.hi
  have hs := V.size
  unfold impl_formatGraph.f
  rw [hs, impl_dig n (by omega), ← hs]
  simp only [Option.bind_some]
  have h0 := impl_rows V (dig n) (by simp [dig]) n 0 [] (by omega) (by simp) (by simp)
  rw [← hs] at h0
  exact h0

end Go.Proofs.YthfjphkhpfmdcaaGreatDoor.Pure
