/-
  DERIVED. GIVEN WITH THE SEED: THE CARDS: each row of YtefcbnlljpdjnaaDoorRows.lean that lists a variable, with what it lists TIED to the program's text (the seventh form; the later family's looks); each row that meets fmt, with fmt's text TOLD by the authors' own Lean function (tested against real Go, not proved from fmt's source: count such statements apart). THE CARD IS WHAT COUNTS. Prove the row's statement (the work); the ties are given (YtefcbnlljpdjnaaDoorTie.lean); close each card by the builder's one call (the guide's Derived/Test/ToyasCard.lean, 'card_holds'). Laid BY PROGRAM, IN A SANDBOX (cutbox-door.mjs). By AI agents, Wed Nov 11 2026. No macro, syntax, notation, axiom, sorry.
-/
import Derived.Test.YtefcbnlljpdjnaaDoorRows
import GoSem.ClaimSeven
namespace Go.Proofs.YtefcbnlljpdjnaaDoor
namespace Rows

/-- THE TIED CARD OF 'laws.FnExactTrieOf'. -/
def fnExactTrieOfCard : Claim7 := { stood := { row := fnExactTrieOfRow, standIns := [], harness := (true, "bdcb3db80251c561bbc8334c7731308294adf86d7be7bd4d1a885b00a83deeb2"), looks := false }, kinds := [], alts := [], laidByText := true, laidKinds := [.data, .pinned], laidTests := true, laidLooks := .later }
def FnExactTrieOfCardSaid : Prop := Claim7.holds Tryd.pinned (.plain (OpenSpec.ofChange fnExactTrieOfSpec)) fnExactTrieOfCard

/-- THE TIED CARD OF 'laws.FnExactRankOf'. -/
def fnExactRankOfCard : Claim7 := { stood := { row := fnExactRankOfRow, standIns := [], harness := (true, "bdcb3db80251c561bbc8334c7731308294adf86d7be7bd4d1a885b00a83deeb2"), looks := false }, kinds := [], alts := [], laidByText := true, laidKinds := [.data, .pinned], laidTests := true, laidLooks := .later }
def FnExactRankOfCardSaid : Prop := Claim7.holds Tryd.pinned (.plain (OpenSpec.ofChange fnExactRankOfSpec)) fnExactRankOfCard

/-- THE TIED CARD OF 'laws.FnExactHasWord'. -/
def fnExactHasWordCard : Claim7 := { stood := { row := fnExactHasWordRow, standIns := [], harness := (true, "bdcb3db80251c561bbc8334c7731308294adf86d7be7bd4d1a885b00a83deeb2"), looks := false }, kinds := [], alts := [], laidByText := true, laidKinds := [.data, .pinned], laidTests := true, laidLooks := .later }
def FnExactHasWordCardSaid : Prop := Claim7.holds Tryd.pinned (.plain (OpenSpec.ofChange fnExactHasWordSpec)) fnExactHasWordCard

/-- THE TIED CARD OF 'laws.FnExactAddWord'. -/
def fnExactAddWordCard : Claim7 := { stood := { row := fnExactAddWordRow, standIns := [], harness := (true, "bdcb3db80251c561bbc8334c7731308294adf86d7be7bd4d1a885b00a83deeb2"), looks := false }, kinds := [], alts := [], laidByText := true, laidKinds := [.data, .pinned], laidTests := true, laidLooks := .later }
def FnExactAddWordCardSaid : Prop := Claim7.holds Tryd.pinned (.plain (OpenSpec.ofChange fnExactAddWordSpec)) fnExactAddWordCard

/-- THE TIED CARD OF 'laws.FnExactDropWord'. -/
def fnExactDropWordCard : Claim7 := { stood := { row := fnExactDropWordRow, standIns := [], harness := (true, "bdcb3db80251c561bbc8334c7731308294adf86d7be7bd4d1a885b00a83deeb2"), looks := false }, kinds := [], alts := [], laidByText := true, laidKinds := [.data, .pinned], laidTests := true, laidLooks := .later }
def FnExactDropWordCardSaid : Prop := Claim7.holds Tryd.pinned (.plain (OpenSpec.ofChange fnExactDropWordSpec)) fnExactDropWordCard

/-- THE TIED CARD OF 'laws.FnExactJoinTries'. -/
def fnExactJoinTriesCard : Claim7 := { stood := { row := fnExactJoinTriesRow, standIns := [], harness := (true, "bdcb3db80251c561bbc8334c7731308294adf86d7be7bd4d1a885b00a83deeb2"), looks := false }, kinds := [], alts := [], laidByText := true, laidKinds := [.data, .pinned], laidTests := true, laidLooks := .later }
def FnExactJoinTriesCardSaid : Prop := Claim7.holds Tryd.pinned (.plain (OpenSpec.ofChange fnExactJoinTriesSpec)) fnExactJoinTriesCard

/-- THE TIED CARD OF 'laws.FnExactTimesTrie'. -/
def fnExactTimesTrieCard : Claim7 := { stood := { row := fnExactTimesTrieRow, standIns := [], harness := (true, "bdcb3db80251c561bbc8334c7731308294adf86d7be7bd4d1a885b00a83deeb2"), looks := false }, kinds := [], alts := [], laidByText := true, laidKinds := [.data, .pinned], laidTests := true, laidLooks := .later }
def FnExactTimesTrieCardSaid : Prop := Claim7.holds Tryd.pinned (.plain (OpenSpec.ofChange fnExactTimesTrieSpec)) fnExactTimesTrieCard

/-- THE TIED CARD OF 'laws.FnExactCloseTrie'. -/
def fnExactCloseTrieCard : Claim7 := { stood := { row := fnExactCloseTrieRow, standIns := [], harness := (true, "bdcb3db80251c561bbc8334c7731308294adf86d7be7bd4d1a885b00a83deeb2"), looks := false }, kinds := [], alts := [], laidByText := true, laidKinds := [.data, .pinned], laidTests := true, laidLooks := .later }
def FnExactCloseTrieCardSaid : Prop := Claim7.holds Tryd.pinned (.plain (OpenSpec.ofChange fnExactCloseTrieSpec)) fnExactCloseTrieCard

/-- THE TIED CARD OF 'laws.FnExactShiftTrie'. -/
def fnExactShiftTrieCard : Claim7 := { stood := { row := fnExactShiftTrieRow, standIns := [], harness := (true, "bdcb3db80251c561bbc8334c7731308294adf86d7be7bd4d1a885b00a83deeb2"), looks := false }, kinds := [], alts := [], laidByText := true, laidKinds := [.data, .pinned], laidTests := true, laidLooks := .later }
def FnExactShiftTrieCardSaid : Prop := Claim7.holds Tryd.pinned (.plain (OpenSpec.ofChange fnExactShiftTrieSpec)) fnExactShiftTrieCard

/-- THE SECOND FORM's CARD OF 'laws.FnExactTrieOf'. -/
def fnExactTrieOfUptoCard : Claim7 := { stood := { row := fnExactTrieOfUptoRow, standIns := [], harness := (true, "bdcb3db80251c561bbc8334c7731308294adf86d7be7bd4d1a885b00a83deeb2"), looks := false }, kinds := [], alts := [], laidByText := true, laidKinds := [.data, .pinned], laidTests := true, laidLooks := .later }
def FnExactTrieOfUptoCardSaid : Prop := Claim7.holds Tryd.pinned (.plain (OpenSpec.upto fnExactTrieOfSpec)) fnExactTrieOfUptoCard

/-- THE SECOND FORM's CARD OF 'laws.FnExactRankOf'. -/
def fnExactRankOfUptoCard : Claim7 := { stood := { row := fnExactRankOfUptoRow, standIns := [], harness := (true, "bdcb3db80251c561bbc8334c7731308294adf86d7be7bd4d1a885b00a83deeb2"), looks := false }, kinds := [], alts := [], laidByText := true, laidKinds := [.data, .pinned], laidTests := true, laidLooks := .later }
def FnExactRankOfUptoCardSaid : Prop := Claim7.holds Tryd.pinned (.plain (OpenSpec.upto fnExactRankOfSpec)) fnExactRankOfUptoCard

/-- THE SECOND FORM's CARD OF 'laws.FnExactHasWord'. -/
def fnExactHasWordUptoCard : Claim7 := { stood := { row := fnExactHasWordUptoRow, standIns := [], harness := (true, "bdcb3db80251c561bbc8334c7731308294adf86d7be7bd4d1a885b00a83deeb2"), looks := false }, kinds := [], alts := [], laidByText := true, laidKinds := [.data, .pinned], laidTests := true, laidLooks := .later }
def FnExactHasWordUptoCardSaid : Prop := Claim7.holds Tryd.pinned (.plain (OpenSpec.upto fnExactHasWordSpec)) fnExactHasWordUptoCard

/-- THE SECOND FORM's CARD OF 'laws.FnExactAddWord'. -/
def fnExactAddWordUptoCard : Claim7 := { stood := { row := fnExactAddWordUptoRow, standIns := [], harness := (true, "bdcb3db80251c561bbc8334c7731308294adf86d7be7bd4d1a885b00a83deeb2"), looks := false }, kinds := [], alts := [], laidByText := true, laidKinds := [.data, .pinned], laidTests := true, laidLooks := .later }
def FnExactAddWordUptoCardSaid : Prop := Claim7.holds Tryd.pinned (.plain (OpenSpec.upto fnExactAddWordSpec)) fnExactAddWordUptoCard

/-- THE SECOND FORM's CARD OF 'laws.FnExactDropWord'. -/
def fnExactDropWordUptoCard : Claim7 := { stood := { row := fnExactDropWordUptoRow, standIns := [], harness := (true, "bdcb3db80251c561bbc8334c7731308294adf86d7be7bd4d1a885b00a83deeb2"), looks := false }, kinds := [], alts := [], laidByText := true, laidKinds := [.data, .pinned], laidTests := true, laidLooks := .later }
def FnExactDropWordUptoCardSaid : Prop := Claim7.holds Tryd.pinned (.plain (OpenSpec.upto fnExactDropWordSpec)) fnExactDropWordUptoCard

/-- THE SECOND FORM's CARD OF 'laws.FnExactJoinTries'. -/
def fnExactJoinTriesUptoCard : Claim7 := { stood := { row := fnExactJoinTriesUptoRow, standIns := [], harness := (true, "bdcb3db80251c561bbc8334c7731308294adf86d7be7bd4d1a885b00a83deeb2"), looks := false }, kinds := [], alts := [], laidByText := true, laidKinds := [.data, .pinned], laidTests := true, laidLooks := .later }
def FnExactJoinTriesUptoCardSaid : Prop := Claim7.holds Tryd.pinned (.plain (OpenSpec.upto fnExactJoinTriesSpec)) fnExactJoinTriesUptoCard

/-- THE SECOND FORM's CARD OF 'laws.FnExactTimesTrie'. -/
def fnExactTimesTrieUptoCard : Claim7 := { stood := { row := fnExactTimesTrieUptoRow, standIns := [], harness := (true, "bdcb3db80251c561bbc8334c7731308294adf86d7be7bd4d1a885b00a83deeb2"), looks := false }, kinds := [], alts := [], laidByText := true, laidKinds := [.data, .pinned], laidTests := true, laidLooks := .later }
def FnExactTimesTrieUptoCardSaid : Prop := Claim7.holds Tryd.pinned (.plain (OpenSpec.upto fnExactTimesTrieSpec)) fnExactTimesTrieUptoCard

/-- THE SECOND FORM's CARD OF 'laws.FnExactCloseTrie'. -/
def fnExactCloseTrieUptoCard : Claim7 := { stood := { row := fnExactCloseTrieUptoRow, standIns := [], harness := (true, "bdcb3db80251c561bbc8334c7731308294adf86d7be7bd4d1a885b00a83deeb2"), looks := false }, kinds := [], alts := [], laidByText := true, laidKinds := [.data, .pinned], laidTests := true, laidLooks := .later }
def FnExactCloseTrieUptoCardSaid : Prop := Claim7.holds Tryd.pinned (.plain (OpenSpec.upto fnExactCloseTrieSpec)) fnExactCloseTrieUptoCard

/-- THE SECOND FORM's CARD OF 'laws.FnExactShiftTrie'. -/
def fnExactShiftTrieUptoCard : Claim7 := { stood := { row := fnExactShiftTrieUptoRow, standIns := [], harness := (true, "bdcb3db80251c561bbc8334c7731308294adf86d7be7bd4d1a885b00a83deeb2"), looks := false }, kinds := [], alts := [], laidByText := true, laidKinds := [.data, .pinned], laidTests := true, laidLooks := .later }
def FnExactShiftTrieUptoCardSaid : Prop := Claim7.holds Tryd.pinned (.plain (OpenSpec.upto fnExactShiftTrieSpec)) fnExactShiftTrieUptoCard
end Rows
end Go.Proofs.YtefcbnlljpdjnaaDoor
