/-
  DERIVED. GIVEN WITH THE SEED: THE CARDS: each row of YtefcbnlljpdjnaaGreatDoorRows.lean that lists a variable, with what it lists TIED to the program's text (the seventh form; the later family's looks); each row that meets fmt, with fmt's text TOLD by the authors' own Lean function (tested against real Go, not proved from fmt's source: count such statements apart). THE CARD IS WHAT COUNTS. Prove the row's statement (the work); the ties are given (YtefcbnlljpdjnaaGreatDoorTie.lean); close each card by the builder's one call (the guide's Derived/Test/ToyasCard.lean, 'card_holds'). Laid BY PROGRAM, IN A SANDBOX (cutbox-door.mjs). By AI agents, Wed Nov 11 2026. No macro, syntax, notation, axiom, sorry.
-/
import Derived.Test.YtefcbnlljpdjnaaGreatDoorRows
import GoSem.ClaimSeven
namespace Go.Proofs.YtefcbnlljpdjnaaGreatDoor
namespace Rows

/-- THE TIED CARD OF 'laws.FnExactTurnTrie'. -/
def fnExactTurnTrieCard : Claim7 := { stood := { row := fnExactTurnTrieRow, standIns := [], harness := (true, "6b8353d06ecac803d49d21f5983bb8e9aa25372ea54b269b575486237e4dda9a"), looks := false }, kinds := [], alts := [], laidByText := true, laidKinds := [.data, .pinned], laidTests := true, laidLooks := .later }
def FnExactTurnTrieCardSaid : Prop := Claim7.holds Tryz.pinned (.plain (OpenSpec.ofChange fnExactTurnTrieSpec)) fnExactTurnTrieCard

/-- THE TIED CARD OF 'laws.FnExactWordsUnder'. -/
def fnExactWordsUnderCard : Claim7 := { stood := { row := fnExactWordsUnderRow, standIns := [], harness := (true, "6b8353d06ecac803d49d21f5983bb8e9aa25372ea54b269b575486237e4dda9a"), looks := false }, kinds := [], alts := [], laidByText := true, laidKinds := [.data, .pinned], laidTests := true, laidLooks := .later }
def FnExactWordsUnderCardSaid : Prop := Claim7.holds Tryz.pinned (.plain (OpenSpec.ofChange fnExactWordsUnderSpec)) fnExactWordsUnderCard

/-- THE TIED CARD OF 'laws.FnExactBehindPrefix'. -/
def fnExactBehindPrefixCard : Claim7 := { stood := { row := fnExactBehindPrefixRow, standIns := [], harness := (true, "6b8353d06ecac803d49d21f5983bb8e9aa25372ea54b269b575486237e4dda9a"), looks := false }, kinds := [], alts := [], laidByText := true, laidKinds := [.data, .pinned], laidTests := true, laidLooks := .later }
def FnExactBehindPrefixCardSaid : Prop := Claim7.holds Tryz.pinned (.plain (OpenSpec.ofChange fnExactBehindPrefixSpec)) fnExactBehindPrefixCard

/-- THE SECOND FORM's CARD OF 'laws.FnExactTurnTrie'. -/
def fnExactTurnTrieUptoCard : Claim7 := { stood := { row := fnExactTurnTrieUptoRow, standIns := [], harness := (true, "6b8353d06ecac803d49d21f5983bb8e9aa25372ea54b269b575486237e4dda9a"), looks := false }, kinds := [], alts := [], laidByText := true, laidKinds := [.data, .pinned], laidTests := true, laidLooks := .later }
def FnExactTurnTrieUptoCardSaid : Prop := Claim7.holds Tryz.pinned (.plain (OpenSpec.upto fnExactTurnTrieSpec)) fnExactTurnTrieUptoCard

/-- THE SECOND FORM's CARD OF 'laws.FnExactWordsUnder'. -/
def fnExactWordsUnderUptoCard : Claim7 := { stood := { row := fnExactWordsUnderUptoRow, standIns := [], harness := (true, "6b8353d06ecac803d49d21f5983bb8e9aa25372ea54b269b575486237e4dda9a"), looks := false }, kinds := [], alts := [], laidByText := true, laidKinds := [.data, .pinned], laidTests := true, laidLooks := .later }
def FnExactWordsUnderUptoCardSaid : Prop := Claim7.holds Tryz.pinned (.plain (OpenSpec.upto fnExactWordsUnderSpec)) fnExactWordsUnderUptoCard

/-- THE SECOND FORM's CARD OF 'laws.FnExactBehindPrefix'. -/
def fnExactBehindPrefixUptoCard : Claim7 := { stood := { row := fnExactBehindPrefixUptoRow, standIns := [], harness := (true, "6b8353d06ecac803d49d21f5983bb8e9aa25372ea54b269b575486237e4dda9a"), looks := false }, kinds := [], alts := [], laidByText := true, laidKinds := [.data, .pinned], laidTests := true, laidLooks := .later }
def FnExactBehindPrefixUptoCardSaid : Prop := Claim7.holds Tryz.pinned (.plain (OpenSpec.upto fnExactBehindPrefixSpec)) fnExactBehindPrefixUptoCard
end Rows
end Go.Proofs.YtefcbnlljpdjnaaGreatDoor
