/- The given constants of the program are those that the law asks for; no condition. -/
import Derived.Test.YtnnhnbpgabbflaaPFnExactConstantsx1
namespace Go.Proofs.Ytnnhnbpgabbflaa.Pure
open Go.RowKit Go.Proofs.Ytnnhnbpgabbflaa.PFnExactConstants Go.Proofs.YtnnhnbpgabbflaaW.PrintWords Go.Proofs.YtnnhnbpgabbflaaW.PrintLast

theorem FnExactConstants : laws_FnExactConstants.Pure := by
  rfl

end Go.Proofs.Ytnnhnbpgabbflaa.Pure
