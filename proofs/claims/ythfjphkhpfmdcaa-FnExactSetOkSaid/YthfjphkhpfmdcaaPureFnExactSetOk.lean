/- SetOk of the program and SetOk of the reference answer alike at every graph and number; no condition. -/
import Derived.Test.YthfjphkhpfmdcaaWalkFnExactSetOk
import Derived.Test.YthfjphkhpfmdcaaPSet
namespace Go.Proofs.Ythfjphkhpfmdcaa.Pure
open Go.RowKit Go.Proofs.Ythfjphkhpfmdcaa.Q Go.Proofs.YthfjphkhpfmdcaaW.PrintWords Go.Proofs.YthfjphkhpfmdcaaW.PrintLast Go.Proofs.YthfjphkhpfmdcaaW.PrintMore
theorem FnExactSetOk : laws_FnExactSetOk.Same := fun s l x _ _ _ _ => both_of (spec_set s l x) (impl_set s l x)

end Go.Proofs.Ythfjphkhpfmdcaa.Pure
