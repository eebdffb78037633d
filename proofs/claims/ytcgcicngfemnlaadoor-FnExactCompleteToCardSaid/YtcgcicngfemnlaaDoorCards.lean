/-
  DERIVED. GIVEN WITH THE SEED: THE CARDS: each row of YtcgcicngfemnlaaDoorRows.lean that lists a variable, with what it lists TIED to the program's text (the seventh form; the later family's looks); each row that meets fmt, with fmt's text TOLD by the authors' own Lean function (tested against real Go, not proved from fmt's source: count such statements apart). THE CARD IS WHAT COUNTS. Prove the row's statement (the work); the ties are given (YtcgcicngfemnlaaDoorTie.lean); close each card by the builder's one call (the guide's Derived/Test/ToyasCard.lean, 'card_holds'). Laid BY PROGRAM, IN A SANDBOX (cutbox-door.mjs). By AI agents, Wed Nov 11 2026. No macro, syntax, notation, axiom, sorry.
-/
import Derived.Test.YtcgcicngfemnlaaDoorRows
import GoSem.ClaimSeven
namespace Go.Proofs.YtcgcicngfemnlaaDoor
namespace Rows

/-- THE TIED CARD OF 'laws.FnExactCompleteTo'. -/
def fnExactCompleteToCard : Claim7 := { stood := { row := fnExactCompleteToRow, standIns := [], harness := (true, "e9884d8941addb5282dd0cc9eaaaa04da5f38a0e0685b3ac900e77b0a75c139c"), looks := false }, kinds := [], alts := [], laidByText := true, laidKinds := [.data, .pinned], laidTests := true, laidLooks := .later }
def FnExactCompleteToCardSaid : Prop := Claim7.holds Tryd.pinned (.plain (OpenSpec.ofChange fnExactCompleteToSpec)) fnExactCompleteToCard

/-- THE SECOND FORM's CARD OF 'laws.FnExactCompleteTo'. -/
def fnExactCompleteToUptoCard : Claim7 := { stood := { row := fnExactCompleteToUptoRow, standIns := [], harness := (true, "e9884d8941addb5282dd0cc9eaaaa04da5f38a0e0685b3ac900e77b0a75c139c"), looks := false }, kinds := [], alts := [], laidByText := true, laidKinds := [.data, .pinned], laidTests := true, laidLooks := .later }
def FnExactCompleteToUptoCardSaid : Prop := Claim7.holds Tryd.pinned (.plain (OpenSpec.upto fnExactCompleteToSpec)) fnExactCompleteToUptoCard
end Rows
end Go.Proofs.YtcgcicngfemnlaaDoor
