/-
  DERIVED. GIVEN WITH THE SEED: THE CARDS: each row of YtcgcicngfemnlaaGreatDoorRows.lean that lists a variable, with what it lists TIED to the program's text (the seventh form; the later family's looks); each row that meets fmt, with fmt's text TOLD by the authors' own Lean function (tested against real Go, not proved from fmt's source: count such statements apart). THE CARD IS WHAT COUNTS. Prove the row's statement (the work); the ties are given (YtcgcicngfemnlaaGreatDoorTie.lean); close each card by the builder's one call (the guide's Derived/Test/ToyasCard.lean, 'card_holds'). Laid BY PROGRAM, IN A SANDBOX (cutbox-door.mjs). By AI agents, Wed Nov 11 2026. No macro, syntax, notation, axiom, sorry.
-/
import Derived.Test.YtcgcicngfemnlaaGreatDoorRows
import GoSem.ClaimSeven
namespace Go.Proofs.YtcgcicngfemnlaaGreatDoor
namespace Rows

/-- THE TIED CARD OF 'laws.FnExactStandingWords'. -/
def fnExactStandingWordsCard : Claim7 := { stood := { row := fnExactStandingWordsRow, standIns := [], harness := (true, "b212f0c90e0ea54b345c2e0da8ba15cc6402b59767f45cf131e42dffde9db4d8"), looks := false }, kinds := [], alts := [], laidByText := true, laidKinds := [.data, .pinned], laidTests := true, laidLooks := .later }
def FnExactStandingWordsCardSaid : Prop := Claim7.holds Tryz.pinned (.plain (OpenSpec.ofChange fnExactStandingWordsSpec)) fnExactStandingWordsCard

/-- THE TIED CARD OF 'laws.FnExactSplitPlaces'. -/
def fnExactSplitPlacesCard : Claim7 := { stood := { row := fnExactSplitPlacesRow, standIns := [], harness := (true, "b212f0c90e0ea54b345c2e0da8ba15cc6402b59767f45cf131e42dffde9db4d8"), looks := false }, kinds := [], alts := [], laidByText := true, laidKinds := [.data, .pinned], laidTests := true, laidLooks := .later }
def FnExactSplitPlacesCardSaid : Prop := Claim7.holds Tryz.pinned (.plain (OpenSpec.ofChange fnExactSplitPlacesSpec)) fnExactSplitPlacesCard

/-- THE TIED CARD OF 'laws.FnExactBestSplit'. -/
def fnExactBestSplitCard : Claim7 := { stood := { row := fnExactBestSplitRow, standIns := [], harness := (true, "b212f0c90e0ea54b345c2e0da8ba15cc6402b59767f45cf131e42dffde9db4d8"), looks := false }, kinds := [], alts := [], laidByText := true, laidKinds := [.data, .pinned], laidTests := true, laidLooks := .later }
def FnExactBestSplitCardSaid : Prop := Claim7.holds Tryz.pinned (.plain (OpenSpec.ofChange fnExactBestSplitSpec)) fnExactBestSplitCard

/-- THE TIED CARD OF 'laws.FnExactLongestMatch'. -/
def fnExactLongestMatchCard : Claim7 := { stood := { row := fnExactLongestMatchRow, standIns := [], harness := (true, "b212f0c90e0ea54b345c2e0da8ba15cc6402b59767f45cf131e42dffde9db4d8"), looks := false }, kinds := [], alts := [], laidByText := true, laidKinds := [.data, .pinned], laidTests := true, laidLooks := .later }
def FnExactLongestMatchCardSaid : Prop := Claim7.holds Tryz.pinned (.plain (OpenSpec.ofChange fnExactLongestMatchSpec)) fnExactLongestMatchCard

/-- THE TIED CARD OF 'laws.FnExactUniquePrefix'. -/
def fnExactUniquePrefixCard : Claim7 := { stood := { row := fnExactUniquePrefixRow, standIns := [], harness := (true, "b212f0c90e0ea54b345c2e0da8ba15cc6402b59767f45cf131e42dffde9db4d8"), looks := false }, kinds := [], alts := [], laidByText := true, laidKinds := [.data, .pinned], laidTests := true, laidLooks := .later }
def FnExactUniquePrefixCardSaid : Prop := Claim7.holds Tryz.pinned (.plain (OpenSpec.ofChange fnExactUniquePrefixSpec)) fnExactUniquePrefixCard

/-- THE TIED CARD OF 'laws.FnExactMostCovered'. -/
def fnExactMostCoveredCard : Claim7 := { stood := { row := fnExactMostCoveredRow, standIns := [], harness := (true, "b212f0c90e0ea54b345c2e0da8ba15cc6402b59767f45cf131e42dffde9db4d8"), looks := false }, kinds := [], alts := [], laidByText := true, laidKinds := [.data, .pinned], laidTests := true, laidLooks := .later }
def FnExactMostCoveredCardSaid : Prop := Claim7.holds Tryz.pinned (.plain (OpenSpec.ofChange fnExactMostCoveredSpec)) fnExactMostCoveredCard

/-- THE TIED CARD OF 'laws.FnExactCountSplits'. -/
def fnExactCountSplitsCard : Claim7 := { stood := { row := fnExactCountSplitsRow, standIns := [], harness := (true, "b212f0c90e0ea54b345c2e0da8ba15cc6402b59767f45cf131e42dffde9db4d8"), looks := false }, kinds := [], alts := [], laidByText := true, laidKinds := [.data, .pinned], laidTests := true, laidLooks := .later }
def FnExactCountSplitsCardSaid : Prop := Claim7.holds Tryz.pinned (.plain (OpenSpec.ofChange fnExactCountSplitsSpec)) fnExactCountSplitsCard

/-- THE TIED CARD OF 'laws.FnExactMatchesAt'. -/
def fnExactMatchesAtCard : Claim7 := { stood := { row := fnExactMatchesAtRow, standIns := [], harness := (true, "b212f0c90e0ea54b345c2e0da8ba15cc6402b59767f45cf131e42dffde9db4d8"), looks := false }, kinds := [], alts := [], laidByText := true, laidKinds := [.data, .pinned], laidTests := true, laidLooks := .later }
def FnExactMatchesAtCardSaid : Prop := Claim7.holds Tryz.pinned (.plain (OpenSpec.ofChange fnExactMatchesAtSpec)) fnExactMatchesAtCard

/-- THE TIED CARD OF 'laws.FnExactGreedySplit'. -/
def fnExactGreedySplitCard : Claim7 := { stood := { row := fnExactGreedySplitRow, standIns := [], harness := (true, "b212f0c90e0ea54b345c2e0da8ba15cc6402b59767f45cf131e42dffde9db4d8"), looks := false }, kinds := [], alts := [], laidByText := true, laidKinds := [.data, .pinned], laidTests := true, laidLooks := .later }
def FnExactGreedySplitCardSaid : Prop := Claim7.holds Tryz.pinned (.plain (OpenSpec.ofChange fnExactGreedySplitSpec)) fnExactGreedySplitCard

/-- THE SECOND FORM's CARD OF 'laws.FnExactStandingWords'. -/
def fnExactStandingWordsUptoCard : Claim7 := { stood := { row := fnExactStandingWordsUptoRow, standIns := [], harness := (true, "b212f0c90e0ea54b345c2e0da8ba15cc6402b59767f45cf131e42dffde9db4d8"), looks := false }, kinds := [], alts := [], laidByText := true, laidKinds := [.data, .pinned], laidTests := true, laidLooks := .later }
def FnExactStandingWordsUptoCardSaid : Prop := Claim7.holds Tryz.pinned (.plain (OpenSpec.upto fnExactStandingWordsSpec)) fnExactStandingWordsUptoCard

/-- THE SECOND FORM's CARD OF 'laws.FnExactSplitPlaces'. -/
def fnExactSplitPlacesUptoCard : Claim7 := { stood := { row := fnExactSplitPlacesUptoRow, standIns := [], harness := (true, "b212f0c90e0ea54b345c2e0da8ba15cc6402b59767f45cf131e42dffde9db4d8"), looks := false }, kinds := [], alts := [], laidByText := true, laidKinds := [.data, .pinned], laidTests := true, laidLooks := .later }
def FnExactSplitPlacesUptoCardSaid : Prop := Claim7.holds Tryz.pinned (.plain (OpenSpec.upto fnExactSplitPlacesSpec)) fnExactSplitPlacesUptoCard

/-- THE SECOND FORM's CARD OF 'laws.FnExactBestSplit'. -/
def fnExactBestSplitUptoCard : Claim7 := { stood := { row := fnExactBestSplitUptoRow, standIns := [], harness := (true, "b212f0c90e0ea54b345c2e0da8ba15cc6402b59767f45cf131e42dffde9db4d8"), looks := false }, kinds := [], alts := [], laidByText := true, laidKinds := [.data, .pinned], laidTests := true, laidLooks := .later }
def FnExactBestSplitUptoCardSaid : Prop := Claim7.holds Tryz.pinned (.plain (OpenSpec.upto fnExactBestSplitSpec)) fnExactBestSplitUptoCard

/-- THE SECOND FORM's CARD OF 'laws.FnExactLongestMatch'. -/
def fnExactLongestMatchUptoCard : Claim7 := { stood := { row := fnExactLongestMatchUptoRow, standIns := [], harness := (true, "b212f0c90e0ea54b345c2e0da8ba15cc6402b59767f45cf131e42dffde9db4d8"), looks := false }, kinds := [], alts := [], laidByText := true, laidKinds := [.data, .pinned], laidTests := true, laidLooks := .later }
def FnExactLongestMatchUptoCardSaid : Prop := Claim7.holds Tryz.pinned (.plain (OpenSpec.upto fnExactLongestMatchSpec)) fnExactLongestMatchUptoCard

/-- THE SECOND FORM's CARD OF 'laws.FnExactUniquePrefix'. -/
def fnExactUniquePrefixUptoCard : Claim7 := { stood := { row := fnExactUniquePrefixUptoRow, standIns := [], harness := (true, "b212f0c90e0ea54b345c2e0da8ba15cc6402b59767f45cf131e42dffde9db4d8"), looks := false }, kinds := [], alts := [], laidByText := true, laidKinds := [.data, .pinned], laidTests := true, laidLooks := .later }
def FnExactUniquePrefixUptoCardSaid : Prop := Claim7.holds Tryz.pinned (.plain (OpenSpec.upto fnExactUniquePrefixSpec)) fnExactUniquePrefixUptoCard

/-- THE SECOND FORM's CARD OF 'laws.FnExactMostCovered'. -/
def fnExactMostCoveredUptoCard : Claim7 := { stood := { row := fnExactMostCoveredUptoRow, standIns := [], harness := (true, "b212f0c90e0ea54b345c2e0da8ba15cc6402b59767f45cf131e42dffde9db4d8"), looks := false }, kinds := [], alts := [], laidByText := true, laidKinds := [.data, .pinned], laidTests := true, laidLooks := .later }
def FnExactMostCoveredUptoCardSaid : Prop := Claim7.holds Tryz.pinned (.plain (OpenSpec.upto fnExactMostCoveredSpec)) fnExactMostCoveredUptoCard

/-- THE SECOND FORM's CARD OF 'laws.FnExactCountSplits'. -/
def fnExactCountSplitsUptoCard : Claim7 := { stood := { row := fnExactCountSplitsUptoRow, standIns := [], harness := (true, "b212f0c90e0ea54b345c2e0da8ba15cc6402b59767f45cf131e42dffde9db4d8"), looks := false }, kinds := [], alts := [], laidByText := true, laidKinds := [.data, .pinned], laidTests := true, laidLooks := .later }
def FnExactCountSplitsUptoCardSaid : Prop := Claim7.holds Tryz.pinned (.plain (OpenSpec.upto fnExactCountSplitsSpec)) fnExactCountSplitsUptoCard

/-- THE SECOND FORM's CARD OF 'laws.FnExactMatchesAt'. -/
def fnExactMatchesAtUptoCard : Claim7 := { stood := { row := fnExactMatchesAtUptoRow, standIns := [], harness := (true, "b212f0c90e0ea54b345c2e0da8ba15cc6402b59767f45cf131e42dffde9db4d8"), looks := false }, kinds := [], alts := [], laidByText := true, laidKinds := [.data, .pinned], laidTests := true, laidLooks := .later }
def FnExactMatchesAtUptoCardSaid : Prop := Claim7.holds Tryz.pinned (.plain (OpenSpec.upto fnExactMatchesAtSpec)) fnExactMatchesAtUptoCard

/-- THE SECOND FORM's CARD OF 'laws.FnExactGreedySplit'. -/
def fnExactGreedySplitUptoCard : Claim7 := { stood := { row := fnExactGreedySplitUptoRow, standIns := [], harness := (true, "b212f0c90e0ea54b345c2e0da8ba15cc6402b59767f45cf131e42dffde9db4d8"), looks := false }, kinds := [], alts := [], laidByText := true, laidKinds := [.data, .pinned], laidTests := true, laidLooks := .later }
def FnExactGreedySplitUptoCardSaid : Prop := Claim7.holds Tryz.pinned (.plain (OpenSpec.upto fnExactGreedySplitSpec)) fnExactGreedySplitUptoCard
end Rows
end Go.Proofs.YtcgcicngfemnlaaGreatDoor
