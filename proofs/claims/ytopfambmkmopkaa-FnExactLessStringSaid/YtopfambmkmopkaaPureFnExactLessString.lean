/- FnExactLessString returns true for every two strings: the program's LessString and the reference's give the same answer. No condition. -/
import Derived.Test.YtopfambmkmopkaaPFnExactLessStringx1
namespace Go.Proofs.Ytopfambmkmopkaa.Pure
open Go.RowKit Go.Proofs.Ytopfambmkmopkaa.PFnExactLessString Go.Proofs.YtopfambmkmopkaaW.PrintWords Go.Proofs.YtopfambmkmopkaaW.PrintLast

theorem FnExactLessString : laws_FnExactLessString.Pure := by
  intro a b _ _
  unfold laws_FnExactLessString.f spec_LessString.f impl_LessString.f
  simp

end Go.Proofs.Ytopfambmkmopkaa.Pure
