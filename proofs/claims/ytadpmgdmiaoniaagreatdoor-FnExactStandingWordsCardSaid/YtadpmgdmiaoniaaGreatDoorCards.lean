/-
  DERIVED. GIVEN WITH THE SEED: THE CARDS: each row of YtadpmgdmiaoniaaGreatDoorRows.lean that lists a variable, with what it lists TIED to the program's text (the seventh form; the later family's looks); each row that meets fmt, with fmt's text TOLD by the authors' own Lean function (tested against real Go, not proved from fmt's source: count such statements apart). THE CARD IS WHAT COUNTS. Prove the row's statement (the work); the ties are given (YtadpmgdmiaoniaaGreatDoorTie.lean); close each card by the builder's one call (the guide's Derived/Test/ToyasCard.lean, 'card_holds'). Laid BY PROGRAM, IN A SANDBOX (cutbox-door.mjs). By AI agents, Wed Nov 11 2026. No macro, syntax, notation, axiom, sorry.
-/
import Derived.Test.YtadpmgdmiaoniaaGreatDoorRows
import GoSem.ClaimSeven
namespace Go.Proofs.YtadpmgdmiaoniaaGreatDoor
namespace Rows

/-- THE TIED CARD OF 'laws.FnExactStandingWords'. -/
def fnExactStandingWordsCard : Claim7 := { stood := { row := fnExactStandingWordsRow, standIns := [], harness := (true, "a66be70c566b356ec5f8f9c514f9a383c5bdb47e0ee55bd527b57172c946a720"), looks := false }, kinds := [], alts := [], laidByText := true, laidKinds := [.data, .pinned], laidTests := true, laidLooks := .later }
def FnExactStandingWordsCardSaid : Prop := Claim7.holds Tryz.pinned (.plain (OpenSpec.ofChange fnExactStandingWordsSpec)) fnExactStandingWordsCard

/-- THE TIED CARD OF 'laws.FnExactSplitPlaces'. -/
def fnExactSplitPlacesCard : Claim7 := { stood := { row := fnExactSplitPlacesRow, standIns := [], harness := (true, "a66be70c566b356ec5f8f9c514f9a383c5bdb47e0ee55bd527b57172c946a720"), looks := false }, kinds := [], alts := [], laidByText := true, laidKinds := [.data, .pinned], laidTests := true, laidLooks := .later }
def FnExactSplitPlacesCardSaid : Prop := Claim7.holds Tryz.pinned (.plain (OpenSpec.ofChange fnExactSplitPlacesSpec)) fnExactSplitPlacesCard

/-- THE TIED CARD OF 'laws.FnExactBestSplit'. -/
def fnExactBestSplitCard : Claim7 := { stood := { row := fnExactBestSplitRow, standIns := [], harness := (true, "a66be70c566b356ec5f8f9c514f9a383c5bdb47e0ee55bd527b57172c946a720"), looks := false }, kinds := [], alts := [], laidByText := true, laidKinds := [.data, .pinned], laidTests := true, laidLooks := .later }
def FnExactBestSplitCardSaid : Prop := Claim7.holds Tryz.pinned (.plain (OpenSpec.ofChange fnExactBestSplitSpec)) fnExactBestSplitCard

/-- THE SECOND FORM's CARD OF 'laws.FnExactStandingWords'. -/
def fnExactStandingWordsUptoCard : Claim7 := { stood := { row := fnExactStandingWordsUptoRow, standIns := [], harness := (true, "a66be70c566b356ec5f8f9c514f9a383c5bdb47e0ee55bd527b57172c946a720"), looks := false }, kinds := [], alts := [], laidByText := true, laidKinds := [.data, .pinned], laidTests := true, laidLooks := .later }
def FnExactStandingWordsUptoCardSaid : Prop := Claim7.holds Tryz.pinned (.plain (OpenSpec.upto fnExactStandingWordsSpec)) fnExactStandingWordsUptoCard

/-- THE SECOND FORM's CARD OF 'laws.FnExactSplitPlaces'. -/
def fnExactSplitPlacesUptoCard : Claim7 := { stood := { row := fnExactSplitPlacesUptoRow, standIns := [], harness := (true, "a66be70c566b356ec5f8f9c514f9a383c5bdb47e0ee55bd527b57172c946a720"), looks := false }, kinds := [], alts := [], laidByText := true, laidKinds := [.data, .pinned], laidTests := true, laidLooks := .later }
def FnExactSplitPlacesUptoCardSaid : Prop := Claim7.holds Tryz.pinned (.plain (OpenSpec.upto fnExactSplitPlacesSpec)) fnExactSplitPlacesUptoCard

/-- THE SECOND FORM's CARD OF 'laws.FnExactBestSplit'. -/
def fnExactBestSplitUptoCard : Claim7 := { stood := { row := fnExactBestSplitUptoRow, standIns := [], harness := (true, "a66be70c566b356ec5f8f9c514f9a383c5bdb47e0ee55bd527b57172c946a720"), looks := false }, kinds := [], alts := [], laidByText := true, laidKinds := [.data, .pinned], laidTests := true, laidLooks := .later }
def FnExactBestSplitUptoCardSaid : Prop := Claim7.holds Tryz.pinned (.plain (OpenSpec.upto fnExactBestSplitSpec)) fnExactBestSplitUptoCard
end Rows
end Go.Proofs.YtadpmgdmiaoniaaGreatDoor
