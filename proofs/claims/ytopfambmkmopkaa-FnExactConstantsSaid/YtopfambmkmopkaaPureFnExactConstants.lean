/- FnExactConstants returns true: each constant of the program has the reference's value. No condition. -/
import Derived.Test.YtopfambmkmopkaaPFnExactConstantsx1
namespace Go.Proofs.Ytopfambmkmopkaa.Pure
open Go.RowKit Go.Proofs.Ytopfambmkmopkaa.PFnExactConstants Go.Proofs.YtopfambmkmopkaaW.PrintWords Go.Proofs.YtopfambmkmopkaaW.PrintLast

theorem FnExactConstants : laws_FnExactConstants.Pure := rfl

end Go.Proofs.Ytopfambmkmopkaa.Pure
