/- The reference's list of a set's vertices; condition: a set of at most eight vertices. -/
import Derived.Test.YthfjphkhpfmdcaaGreatDoorPlain
import Derived.Test.YthfjphkhpfmdcaaGreatDoorQx9N
namespace Go.Proofs.YthfjphkhpfmdcaaGreatDoor.Pure
open Go.RowKit Go.Proofs.YthfjphkhpfmdcaaGreatDoor.Q Go.Proofs.YthfjphkhpfmdcaaGreatDoorW.PrintWords Go.Proofs.YthfjphkhpfmdcaaGreatDoorW.PrintLast Go.Proofs.YthfjphkhpfmdcaaGreatDoorW.PrintMore

theorem spec_list_all : ∀ x : Fin 256, spec_l02List.f 10 ((x.val : Nat) : Int) = some (ints (bitsOf x.val)) := by decide +kernel
theorem spec_list (x : Nat) (hx : x < 256) : Ev (fun k => spec_l02List.f k (x : Int)) (ints (bitsOf x)) :=
  Ev.of (fun k => spec_l02List.mono (x : Int) k) (spec_list_all ⟨x, hx⟩)

end Go.Proofs.YthfjphkhpfmdcaaGreatDoor.Pure
