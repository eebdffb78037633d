/- Words of one proof: what it needs of them. -/
import Derived.Test.YtnjopfckahipnaaAwTab
set_option linter.unusedVariables false
set_option linter.unusedSimpArgs false
namespace Go.Proofs.YtnjopfckahipnaaW.PrintLast
def up (b : Nat → Bool) (i : Nat) : Nat → Bool := fun j => if j = i then true else b j
end Go.Proofs.YtnjopfckahipnaaW.PrintLast
