/- What the library's listed variables hold, as a premise on memory that lasts: no condition. -/
import Derived.Test.YtbmpehclflbbaaaDoorWMore
import Derived.Test.YtbmpehclflbbaaaDoorRows
import Derived.Shelf.Spec.TrailingZeros
import Derived.Lib.LaidTab
import Derived.Lib.ItoaNum
import Derived.WalkSmall
import Derived.LaidMore
import Derived.LaidLaws
import Derived.LaidHandle
import Derived.LaidSub
import Derived.MakeChecks
import Derived.Stop.LaidErr
namespace Go.Proofs.YtbmpehclflbbaaaDoor.Q
open Go.RowKit Go.Proofs.YtbmpehclflbbaaaDoorW.PrintWords Go.Proofs.YtbmpehclflbbaaaDoorW.PrintLast Go.Proofs.YtbmpehclflbbaaaDoorW.PrintMore
set_option linter.unusedVariables false

/-- The table of math/bits. -/
def TabZ (w : World) : Prop := TabAt 1 Lib.deBruijn64tab w
theorem TabZ.below {w w' : World} (h : TabZ w) (hb : Below w.heap.size w w') : TabZ w' := fun j hj => by
  have h1 := h j hj
  rw [hb.cell (World.block_lt_of_cell? _ _ h1)]
  exact h1
theorem TabZ.alloc {w : World} (h : TabZ w) (o : Obj) : TabZ (w.alloc o) := h.below (below_alloc (Below.refl _ _) o)
theorem TabZ.drewN {w : World} (h : TabZ w) (n : Nat) : TabZ (w.drewN n) := h.below (pw_below_drewN (Below.refl _ _) n)
theorem TabZ.drew {w : World} (h : TabZ w) : TabZ w.drew := h.below (below_drew1 (Below.refl _ _))

/-- The table of internal/strconv. -/
def TabI (w : World) : Prop := Lib.TabIs Tryd.prog w "internal/strconv.uint64pow10" .u64 Lib.pow10Tab
theorem tab_below {n : String} {w w' : World} {cs : Array Value} (h : w.var? Tryd.prog n = some cs) (hb : Below w.heap.size w w') : w'.var? Tryd.prog n = some cs := by
  have h0 := h
  unfold World.var? at h0
  cases hg : Tryd.prog.globalNamed n with
  | none => rw [hg] at h0; cases h0
  | some g =>
    rw [hg] at h0
    have hlt : g < w.heap.size := by
      rcases Nat.lt_or_ge g w.heap.size with h1 | h1
      · exact h1
      · rw [Option.bind_some, Array.getElem?_eq_none h1] at h0
        cases h0
    exact var?_below hb hg hlt h
theorem TabI.below {w w' : World} (h : TabI w) (hb : Below w.heap.size w w') : TabI w' := tab_below h hb
theorem TabI.alloc {w : World} (h : TabI w) (o : Obj) : TabI (w.alloc o) := h.below (below_alloc (Below.refl _ _) o)
theorem TabI.drewN {w : World} (h : TabI w) (n : Nat) : TabI (w.drewN n) := h.below (pw_below_drewN (Below.refl _ _) n)
theorem TabI.drew {w : World} (h : TabI w) : TabI w.drew := h.below (below_drew1 (Below.refl _ _))

theorem laidMet_fnSets {W : World} (h : laidMetH Tryd.prog Rows.fnSetsRow.laid W) : laidMet Tryd.prog Rows.fnSetsRow.laid W := by
  rw [MakeChecks.laidMetH_plain _ _ _ (by kernel_rfl)] at h
  exact h
set_option maxRecDepth 100000 in
theorem tabZ_fnSets {W : World} (h0 : laidMetH Tryd.prog Rows.fnSetsRow.laid W) : TabZ W := by
  have h := laidMet_fnSets h0
  have hT : Lib.TabIs Tryd.prog W "math/bits.deBruijn64tab" .u8 (Lib.deBruijn64tab.map fun n => ((n : Nat) : Int)) := Lib.tabIs_of_head (rest := (Rows.fnSetsRow.laid).drop 2) (g := 1) (t := 73) (e := 5) (n := 64) (by kernel_rfl) (by kernel_rfl) Tryd.underlying73 Tryd.underlying5 (by kernel_rfl) (by kernel_rfl) h.tail
  intro j hj
  have hc := hT.cell (g := 1) (by kernel_rfl) j (by simpa using hj)
  rw [hc]
  have e : (Lib.deBruijn64tab.map fun n => ((n : Nat) : Int)).getD j 0 = ((Lib.deBruijn64tab.getD j 0 : Nat) : Int) := by
    rw [List.getD_eq_getElem?_getD, List.getElem?_map, List.getD_eq_getElem?_getD, List.getElem?_eq_getElem hj]
    rfl
  rw [e]
end Go.Proofs.YtbmpehclflbbaaaDoor.Q
