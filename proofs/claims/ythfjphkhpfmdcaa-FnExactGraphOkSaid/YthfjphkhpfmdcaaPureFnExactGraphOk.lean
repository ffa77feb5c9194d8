/- GraphOk of the program and GraphOk of the reference answer alike at every graph; no condition. -/
import Derived.Test.YthfjphkhpfmdcaaWalkFnExactGraphOk
import Derived.Test.YthfjphkhpfmdcaaPOk
namespace Go.Proofs.Ythfjphkhpfmdcaa.Pure
open Go.Proofs.Ythfjphkhpfmdcaa.Q
theorem FnExactGraphOk : laws_FnExactGraphOk.Same := fun s l _ _ _ => both_of (spec_ok s l) (impl_ok s l)
end Go.Proofs.Ythfjphkhpfmdcaa.Pure
