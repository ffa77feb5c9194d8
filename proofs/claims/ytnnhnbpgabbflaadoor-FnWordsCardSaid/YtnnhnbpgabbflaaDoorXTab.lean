/- What the library's listed variables hold, as a premise on memory that lasts: no condition. -/
import Derived.Test.YtnnhnbpgabbflaaDoorWMore
import Derived.Test.YtnnhnbpgabbflaaDoorRows
import Derived.Shelf.Spec.TrailingZeros
import Derived.Lib.LaidTab
import Derived.Lib.ItoaNum
import Derived.WalkSmall
import Derived.LaidMore
import Derived.LaidLaws
import Derived.LaidHandle
import Derived.LaidSub
import Derived.MakeChecks
import Derived.Stop.LaidErr
namespace Go.Proofs.YtnnhnbpgabbflaaDoor.Q
open Go.RowKit Go.Proofs.YtnnhnbpgabbflaaDoorW.PrintWords Go.Proofs.YtnnhnbpgabbflaaDoorW.PrintLast Go.Proofs.YtnnhnbpgabbflaaDoorW.PrintMore
set_option linter.unusedVariables false

/-- The table of math/bits. -/
def TabZ (w : World) : Prop := TabAt 7 Lib.deBruijn64tab w
theorem TabZ.below {w w' : World} (h : TabZ w) (hb : Below w.heap.size w w') : TabZ w' := fun j hj => by
  have h1 := h j hj
  rw [hb.cell (World.block_lt_of_cell? _ _ h1)]
  exact h1
theorem TabZ.alloc {w : World} (h : TabZ w) (o : Obj) : TabZ (w.alloc o) := h.below (below_alloc (Below.refl _ _) o)
theorem TabZ.drewN {w : World} (h : TabZ w) (n : Nat) : TabZ (w.drewN n) := h.below (pw_below_drewN (Below.refl _ _) n)
theorem TabZ.drew {w : World} (h : TabZ w) : TabZ w.drew := h.below (below_drew1 (Below.refl _ _))

/-- The table of internal/strconv. -/
def TabI (w : World) : Prop := Lib.TabIs Tryd.prog w "internal/strconv.uint64pow10" .u64 Lib.pow10Tab
theorem tab_below {n : String} {w w' : World} {cs : Array Value} (h : w.var? Tryd.prog n = some cs) (hb : Below w.heap.size w w') : w'.var? Tryd.prog n = some cs := by
  have h0 := h
  unfold World.var? at h0
  cases hg : Tryd.prog.globalNamed n with
  | none => rw [hg] at h0; cases h0
  | some g =>
    rw [hg] at h0
    have hlt : g < w.heap.size := by
      rcases Nat.lt_or_ge g w.heap.size with h1 | h1
      · exact h1
      · rw [Option.bind_some, Array.getElem?_eq_none h1] at h0
        cases h0
    exact var?_below hb hg hlt h
theorem TabI.below {w w' : World} (h : TabI w) (hb : Below w.heap.size w w') : TabI w' := tab_below h hb
theorem TabI.alloc {w : World} (h : TabI w) (o : Obj) : TabI (w.alloc o) := h.below (below_alloc (Below.refl _ _) o)
theorem TabI.drewN {w : World} (h : TabI w) (n : Nat) : TabI (w.drewN n) := h.below (pw_below_drewN (Below.refl _ _) n)
theorem TabI.drew {w : World} (h : TabI w) : TabI w.drew := h.below (below_drew1 (Below.refl _ _))

/-- The table of internal/strconv, and the two errors of strconv. -/
def TabE (w : World) : Prop := TabI w ∧ (∃ t p, w.var? Tryd.prog "strconv.ErrSyntax" = some #[.iface t p]) ∧ ∃ t p, w.var? Tryd.prog "strconv.ErrRange" = some #[.iface t p]
theorem TabE.below {w w' : World} (h : TabE w) (hb : Below w.heap.size w w') : TabE w' := by
  obtain ⟨h1, ⟨t, p, h2⟩, t', p', h3⟩ := h
  exact ⟨h1.below hb, ⟨t, p, tab_below h2 hb⟩, t', p', tab_below h3 hb⟩
theorem TabE.alloc {w : World} (h : TabE w) (o : Obj) : TabE (w.alloc o) := h.below (below_alloc (Below.refl _ _) o)
theorem TabE.drewN {w : World} (h : TabE w) (n : Nat) : TabE (w.drewN n) := h.below (pw_below_drewN (Below.refl _ _) n)
theorem TabE.drew {w : World} (h : TabE w) : TabE w.drew := h.below (below_drew1 (Below.refl _ _))

theorem laidMet_fnExactParseInt {W : World} (h : laidMetH Tryd.prog Rows.fnExactParseIntRow.laid W) : laidMet Tryd.prog Rows.fnExactParseIntRow.laid W := by
  rw [MakeChecks.laidMetH_plain _ _ _ (by kernel_rfl)] at h
  exact h
set_option maxRecDepth 100000 in
theorem tabZ_fnExactParseInt {W : World} (h0 : laidMetH Tryd.prog Rows.fnExactParseIntRow.laid W) : TabZ W := by
  have h := laidMet_fnExactParseInt h0
  have hT : Lib.TabIs Tryd.prog W "math/bits.deBruijn64tab" .u8 (Lib.deBruijn64tab.map fun n => ((n : Nat) : Int)) := Lib.tabIs_of_head (rest := (Rows.fnExactParseIntRow.laid).drop 2) (g := 7) (t := 103) (e := 5) (n := 64) (by kernel_rfl) (by kernel_rfl) Tryd.underlying103 Tryd.underlying5 (by kernel_rfl) (by kernel_rfl) h.tail
  intro j hj
  have hc := hT.cell (g := 7) (by kernel_rfl) j (by simpa using hj)
  rw [hc]
  have e : (Lib.deBruijn64tab.map fun n => ((n : Nat) : Int)).getD j 0 = ((Lib.deBruijn64tab.getD j 0 : Nat) : Int) := by
    rw [List.getD_eq_getElem?_getD, List.getElem?_map, List.getD_eq_getElem?_getD, List.getElem?_eq_getElem hj]
    rfl
  rw [e]
set_option maxRecDepth 100000 in
theorem tabI_fnExactParseInt {W : World} (h0 : laidMetH Tryd.prog Rows.fnExactParseIntRow.laid W) : TabI W := by
  have h := laidMet_fnExactParseInt h0
  exact Lib.tabIs_of_head (rest := (Rows.fnExactParseIntRow.laid).drop 3) (g := 3) (t := 90) (e := 66) (n := 20) (by kernel_rfl) (by kernel_rfl) Tryd.underlying90 Tryd.underlying66 (by kernel_rfl) (by kernel_rfl) h.tail.tail
set_option maxRecDepth 100000 in
theorem tabE_fnExactParseInt {W : World} (h0 : laidMetH Tryd.prog Rows.fnExactParseIntRow.laid W) : TabE W := by
  have h := laidMet_fnExactParseInt h0
  obtain ⟨aS, sS, hvS, -, -, -⟩ := laid_sentinel (r := (Rows.fnExactParseIntRow.laid).drop 5) (g := 0) (ti := 35) h.tail.tail.tail.tail (by kernel_rfl) (by kernel_rfl) Tryd.underlying35 (fun u hu => typeName_ptr_named (nm := "errors.errorString") (tp := 85) (by kernel_rfl) (by kernel_rfl) (by decide) u hu) Tryd.underlying85 Tryd.underlying87 rfl rfl Tryd.underlying9 (by kernel_rfl) (by kernel_rfl)
  obtain ⟨aR, sR, hvR, -, -, -⟩ := laid_sentinel (r := (Rows.fnExactParseIntRow.laid).drop 4) (g := 1) (ti := 35) h.tail.tail.tail (by kernel_rfl) (by kernel_rfl) Tryd.underlying35 (fun u hu => typeName_ptr_named (nm := "errors.errorString") (tp := 85) (by kernel_rfl) (by kernel_rfl) (by decide) u hu) Tryd.underlying85 Tryd.underlying87 rfl rfl Tryd.underlying9 (by kernel_rfl) (by kernel_rfl)
  exact ⟨tabI_fnExactParseInt h0, ⟨_, _, hvS⟩, _, _, hvR⟩
theorem laidMet_fnWords {W : World} (h : laidMetH Tryd.prog Rows.fnWordsRow.laid W) : laidMet Tryd.prog Rows.fnWordsRow.laid W := by
  rw [MakeChecks.laidMetH_plain _ _ _ (by kernel_rfl)] at h
  exact h
set_option maxRecDepth 100000 in
theorem tabZ_fnWords {W : World} (h0 : laidMetH Tryd.prog Rows.fnWordsRow.laid W) : TabZ W := by
  have h := laidMet_fnWords h0
  have hT : Lib.TabIs Tryd.prog W "math/bits.deBruijn64tab" .u8 (Lib.deBruijn64tab.map fun n => ((n : Nat) : Int)) := Lib.tabIs_of_head (rest := (Rows.fnWordsRow.laid).drop 2) (g := 7) (t := 103) (e := 5) (n := 64) (by kernel_rfl) (by kernel_rfl) Tryd.underlying103 Tryd.underlying5 (by kernel_rfl) (by kernel_rfl) h.tail
  intro j hj
  have hc := hT.cell (g := 7) (by kernel_rfl) j (by simpa using hj)
  rw [hc]
  have e : (Lib.deBruijn64tab.map fun n => ((n : Nat) : Int)).getD j 0 = ((Lib.deBruijn64tab.getD j 0 : Nat) : Int) := by
    rw [List.getD_eq_getElem?_getD, List.getElem?_map, List.getD_eq_getElem?_getD, List.getElem?_eq_getElem hj]
    rfl
  rw [e]
set_option maxRecDepth 100000 in
theorem tabI_fnWords {W : World} (h0 : laidMetH Tryd.prog Rows.fnWordsRow.laid W) : TabI W := by
  have h := laidMet_fnWords h0
  exact Lib.tabIs_of_head (rest := (Rows.fnWordsRow.laid).drop 3) (g := 3) (t := 90) (e := 66) (n := 20) (by kernel_rfl) (by kernel_rfl) Tryd.underlying90 Tryd.underlying66 (by kernel_rfl) (by kernel_rfl) h.tail.tail
set_option maxRecDepth 100000 in
theorem tabE_fnWords {W : World} (h0 : laidMetH Tryd.prog Rows.fnWordsRow.laid W) : TabE W := by
  have h := laidMet_fnWords h0
  obtain ⟨aS, sS, hvS, -, -, -⟩ := laid_sentinel (r := (Rows.fnWordsRow.laid).drop 6) (g := 0) (ti := 35) h.tail.tail.tail.tail.tail (by kernel_rfl) (by kernel_rfl) Tryd.underlying35 (fun u hu => typeName_ptr_named (nm := "errors.errorString") (tp := 85) (by kernel_rfl) (by kernel_rfl) (by decide) u hu) Tryd.underlying85 Tryd.underlying87 rfl rfl Tryd.underlying9 (by kernel_rfl) (by kernel_rfl)
  obtain ⟨aR, sR, hvR, -, -, -⟩ := laid_sentinel (r := (Rows.fnWordsRow.laid).drop 5) (g := 1) (ti := 35) h.tail.tail.tail.tail (by kernel_rfl) (by kernel_rfl) Tryd.underlying35 (fun u hu => typeName_ptr_named (nm := "errors.errorString") (tp := 85) (by kernel_rfl) (by kernel_rfl) (by decide) u hu) Tryd.underlying85 Tryd.underlying87 rfl rfl Tryd.underlying9 (by kernel_rfl) (by kernel_rfl)
  exact ⟨tabI_fnWords h0, ⟨_, _, hvS⟩, _, _, hvR⟩
end Go.Proofs.YtnnhnbpgabbflaaDoor.Q
