/-
  DERIVED. GIVEN WITH THE SEED: THE CARDS: each row of YtklddfkhbhkhdaaDoorRows.lean that lists a variable, with what it lists TIED to the program's text (the seventh form; the later family's looks); each row that meets fmt, with fmt's text TOLD by the authors' own Lean function (tested against real Go, not proved from fmt's source: count such statements apart). THE CARD IS WHAT COUNTS. Prove the row's statement (the work); the ties are given (YtklddfkhbhkhdaaDoorTie.lean); close each card by the builder's one call (the guide's Derived/Test/ToyasCard.lean, 'card_holds'). Laid BY PROGRAM, IN A SANDBOX (cutbox-door.mjs). By AI agents, Wed Nov 11 2026. No macro, syntax, notation, axiom, sorry.
-/
import Derived.Test.YtklddfkhbhkhdaaDoorRows
import GoSem.ClaimSeven
namespace Go.Proofs.YtklddfkhbhkhdaaDoor
namespace Rows

/-- THE TIED CARD OF 'laws.FnExactLongestCommon'. -/
def fnExactLongestCommonCard : Claim7 := { stood := { row := fnExactLongestCommonRow, standIns := [], harness := (true, "2e950a33bd4384baa06fb028b9a6bdea735eae89257bfebfe682170664b9b05e"), looks := true }, kinds := [], alts := [], laidByText := true, laidKinds := [.data, .pinned], laidTests := true, laidLooks := .later }
def FnExactLongestCommonCardSaid : Prop := Claim7.holds Tryd.pinned (.plain (OpenSpec.ofChange fnExactLongestCommonSpec)) fnExactLongestCommonCard

/-- THE TIED CARD OF 'laws.FnSplitJoin'. -/
def fnSplitJoinCard : Claim7 := { stood := { row := fnSplitJoinRow, standIns := [], harness := (true, "2e950a33bd4384baa06fb028b9a6bdea735eae89257bfebfe682170664b9b05e"), looks := true }, kinds := [], alts := [], laidByText := true, laidKinds := [.data, .pinned], laidTests := true, laidLooks := .later }
def FnSplitJoinCardSaid : Prop := Claim7.holds Tryd.pinned (.plain (OpenSpec.ofChange fnSplitJoinSpec)) fnSplitJoinCard

/-- THE TIED CARD OF 'laws.FnExactIsPattern'. -/
def fnExactIsPatternCard : Claim7 := { stood := { row := fnExactIsPatternRow, standIns := [], harness := (true, "2e950a33bd4384baa06fb028b9a6bdea735eae89257bfebfe682170664b9b05e"), looks := true }, kinds := [], alts := [], laidByText := true, laidKinds := [.data, .pinned], laidTests := true, laidLooks := .later }
def FnExactIsPatternCardSaid : Prop := Claim7.holds Tryd.pinned (.plain (OpenSpec.ofChange fnExactIsPatternSpec)) fnExactIsPatternCard

/-- THE TIED CARD OF 'laws.FnStrings'. -/
def fnStringsCard : Claim7 := { stood := { row := fnStringsRow, standIns := [], harness := (true, "2e950a33bd4384baa06fb028b9a6bdea735eae89257bfebfe682170664b9b05e"), looks := true }, kinds := [], alts := [], laidByText := true, laidKinds := [.data, .data, .data, .sentinel, .sentinel], laidTests := true, laidLooks := .later }
def FnStringsCardSaid : Prop := Claim7.holds Tryd.pinned (.plain (OpenSpec.ofChange fnStringsSpec)) fnStringsCard

/-- THE SECOND FORM's CARD OF 'laws.FnExactLongestCommon'. -/
def fnExactLongestCommonUptoCard : Claim7 := { stood := { row := fnExactLongestCommonUptoRow, standIns := [], harness := (true, "2e950a33bd4384baa06fb028b9a6bdea735eae89257bfebfe682170664b9b05e"), looks := true }, kinds := [], alts := [], laidByText := true, laidKinds := [.data, .pinned], laidTests := true, laidLooks := .later }
def FnExactLongestCommonUptoCardSaid : Prop := Claim7.holds Tryd.pinned (.plain (OpenSpec.upto fnExactLongestCommonSpec)) fnExactLongestCommonUptoCard

/-- THE SECOND FORM's CARD OF 'laws.FnSplitJoin'. -/
def fnSplitJoinUptoCard : Claim7 := { stood := { row := fnSplitJoinUptoRow, standIns := [], harness := (true, "2e950a33bd4384baa06fb028b9a6bdea735eae89257bfebfe682170664b9b05e"), looks := true }, kinds := [], alts := [], laidByText := true, laidKinds := [.data, .pinned], laidTests := true, laidLooks := .later }
def FnSplitJoinUptoCardSaid : Prop := Claim7.holds Tryd.pinned (.plain (OpenSpec.upto fnSplitJoinSpec)) fnSplitJoinUptoCard

/-- THE SECOND FORM's CARD OF 'laws.FnExactIsPattern'. -/
def fnExactIsPatternUptoCard : Claim7 := { stood := { row := fnExactIsPatternUptoRow, standIns := [], harness := (true, "2e950a33bd4384baa06fb028b9a6bdea735eae89257bfebfe682170664b9b05e"), looks := true }, kinds := [], alts := [], laidByText := true, laidKinds := [.data, .pinned], laidTests := true, laidLooks := .later }
def FnExactIsPatternUptoCardSaid : Prop := Claim7.holds Tryd.pinned (.plain (OpenSpec.upto fnExactIsPatternSpec)) fnExactIsPatternUptoCard

/-- THE SECOND FORM's CARD OF 'laws.FnStrings'. -/
def fnStringsUptoCard : Claim7 := { stood := { row := fnStringsUptoRow, standIns := [], harness := (true, "2e950a33bd4384baa06fb028b9a6bdea735eae89257bfebfe682170664b9b05e"), looks := true }, kinds := [], alts := [], laidByText := true, laidKinds := [.data, .data, .data, .sentinel, .sentinel], laidTests := true, laidLooks := .later }
def FnStringsUptoCardSaid : Prop := Claim7.holds Tryd.pinned (.plain (OpenSpec.upto fnStringsSpec)) fnStringsUptoCard
end Rows
end Go.Proofs.YtklddfkhbhkhdaaDoor
