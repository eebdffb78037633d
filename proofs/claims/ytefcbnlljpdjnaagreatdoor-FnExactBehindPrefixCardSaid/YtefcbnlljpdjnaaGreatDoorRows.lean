/-
  NARROWER THAN 'FOR EVERY INPUT', by the rows' own cells (each row's printed sentence says how): FnExactTurnTrie: laid · FnExactWordsUnder: laid · FnExactBehindPrefix: laid.
  DERIVED. THE GIVEN ROWS OF THIS SEAT. 3 by the template 'for every input the law returns true; each argument reads behind the call as it read before'; 0 by the template 'total and deterministic' (their statements: YtefcbnlljpdjnaaGreatDoorTotals.lean).
  GIVEN WITH THE SEED: the statements are not yours to turn. If you find one false, say at which input.
  Laid BY PROGRAM, IN A SANDBOX (cutbox-rows.mjs): the forced cells as the released guide's own fill.sh prints them over the translation a698bb0d5a1751d8… (all of the seat's roots in one cut). By AI agents, Wed Nov 11 2026. No macro, syntax, notation, axiom, sorry.
-/
import Derived.Test.YtefcbnlljpdjnaaGreatDoorChecked
import GoSem.PinnedTables
import GoSem.Claim
import GoSem.ClaimJoined
import GoSem.ClaimMapViews
import Derived.JoinedTies
import Derived.KernelRfl
namespace Go.Proofs.YtefcbnlljpdjnaaGreatDoor
/- THE CELL 'sum', in the pinned program and in every row, IS THE sha256 OF THE DUMP (.gsa) THAT YtefcbnlljpdjnaaGreatDoorProg.lean LOADS. Nothing in Lean hashes anything: it is a label: what it is worth is what the hold of that sum in a sandbox is worth. -/
noncomputable def Tryz.pinned : Pinned := { name := "ytefcbnlljpdjnaagreatdoor", sum := "a698bb0d5a1751d88549ca752f8e8d523444948ca1ac389fdd078946378f886e", checked := Tryz.checked }
namespace Rows
def none {H : Type} : Left H := { results := [], args := [] }

/- WHAT THE LISTED PACKAGE-LEVEL VARIABLES READ AS WHEN THE CALL BEGINS. Each datum BY PROGRAM (the guide's laid-datum.mjs) off the statement by which the dump's own 'gosem.cut.vars' lays the variable. In a bare row this is a premise. The card (YtefcbnlljpdjnaaGreatDoorCards.lean) ties it to the program's text. -/
def laid_unicode_utf8_acceptRanges {H : Type} : DataW H := .agg [.agg [.lit (.int .u8 128), .lit (.int .u8 191)], .agg [.lit (.int .u8 160), .lit (.int .u8 191)], .agg [.lit (.int .u8 128), .lit (.int .u8 159)], .agg [.lit (.int .u8 144), .lit (.int .u8 191)], .agg [.lit (.int .u8 128), .lit (.int .u8 143)], .agg [.lit (.int .u8 0), .lit (.int .u8 0)], .agg [.lit (.int .u8 0), .lit (.int .u8 0)], .agg [.lit (.int .u8 0), .lit (.int .u8 0)], .agg [.lit (.int .u8 0), .lit (.int .u8 0)], .agg [.lit (.int .u8 0), .lit (.int .u8 0)], .agg [.lit (.int .u8 0), .lit (.int .u8 0)], .agg [.lit (.int .u8 0), .lit (.int .u8 0)], .agg [.lit (.int .u8 0), .lit (.int .u8 0)], .agg [.lit (.int .u8 0), .lit (.int .u8 0)], .agg [.lit (.int .u8 0), .lit (.int .u8 0)], .agg [.lit (.int .u8 0), .lit (.int .u8 0)]]
/-- One of Go's own tables, pinned by name: the form's constant. -/
def laid_unicode_utf8_first : DataW Unit := Go.Pinned.utf8First

/-- 'laws.FnExactTurnTrie': WHATEVER THE INPUT: true; the input reads as it did. -/
def fnExactTurnTrieSpec : ChangeSpec := { name := "fnExactTurnTrie", fn := fun _ => fun
  | [d] => { results := [.lit (.bool true)], args := [d] }
  | _ => none }
def fnExactTurnTrieRow : OpenClaim := { program := "ytefcbnlljpdjnaagreatdoor", sum := "a698bb0d5a1751d88549ca752f8e8d523444948ca1ac389fdd078946378f886e", func := "loop.example/g01243/laws.FnExactTurnTrie", spec := "fnExactTurnTrie", inPlace := ["internal/bytealg.IndexByteString", "internal/bytealg.IndexString"], unfollowed := true, recurses := true, named := ["unicode/utf8.first", "unicode/utf8.acceptRanges", "internal/bytealg.MaxLen"], apart := false, laid := [("unicode/utf8.acceptRanges", laid_unicode_utf8_acceptRanges), ("unicode/utf8.first", laid_unicode_utf8_first)] }
def FnExactTurnTrieSaid : Prop := fnExactTurnTrieRow.holds Tryz.pinned (OpenSpec.ofChange fnExactTurnTrieSpec)

/-- ITS FALSE NEIGHBOUR: 'it returns false'. Refute it at one input. -/
def fnExactTurnTrieWrong : ChangeSpec := { name := "fnExactTurnTrie", fn := fun _ => fun
  | [d] => { results := [.lit (.bool false)], args := [d] }
  | _ => none }
def FnExactTurnTrieWrongFalsely : Prop := fnExactTurnTrieRow.holds Tryz.pinned (OpenSpec.ofChange fnExactTurnTrieWrong)

/-- 'laws.FnExactWordsUnder': WHATEVER THE INPUT: true; the input reads as it did. -/
def fnExactWordsUnderSpec : ChangeSpec := { name := "fnExactWordsUnder", fn := fun _ => fun
  | [d1, d2] => { results := [.lit (.bool true)], args := [d1, d2] }
  | _ => none }
def fnExactWordsUnderRow : OpenClaim := { program := "ytefcbnlljpdjnaagreatdoor", sum := "a698bb0d5a1751d88549ca752f8e8d523444948ca1ac389fdd078946378f886e", func := "loop.example/g01243/laws.FnExactWordsUnder", spec := "fnExactWordsUnder", inPlace := ["internal/bytealg.IndexByteString", "internal/bytealg.IndexString"], unfollowed := true, recurses := true, named := ["unicode/utf8.first", "unicode/utf8.acceptRanges", "internal/bytealg.MaxLen"], apart := false, laid := [("unicode/utf8.acceptRanges", laid_unicode_utf8_acceptRanges), ("unicode/utf8.first", laid_unicode_utf8_first)] }
def FnExactWordsUnderSaid : Prop := fnExactWordsUnderRow.holds Tryz.pinned (OpenSpec.ofChange fnExactWordsUnderSpec)

/-- ITS FALSE NEIGHBOUR: 'it returns false'. Refute it at one input. -/
def fnExactWordsUnderWrong : ChangeSpec := { name := "fnExactWordsUnder", fn := fun _ => fun
  | [d1, d2] => { results := [.lit (.bool false)], args := [d1, d2] }
  | _ => none }
def FnExactWordsUnderWrongFalsely : Prop := fnExactWordsUnderRow.holds Tryz.pinned (OpenSpec.ofChange fnExactWordsUnderWrong)

/-- 'laws.FnExactBehindPrefix': WHATEVER THE INPUT: true; the input reads as it did. -/
def fnExactBehindPrefixSpec : ChangeSpec := { name := "fnExactBehindPrefix", fn := fun _ => fun
  | [d1, d2] => { results := [.lit (.bool true)], args := [d1, d2] }
  | _ => none }
def fnExactBehindPrefixRow : OpenClaim := { program := "ytefcbnlljpdjnaagreatdoor", sum := "a698bb0d5a1751d88549ca752f8e8d523444948ca1ac389fdd078946378f886e", func := "loop.example/g01243/laws.FnExactBehindPrefix", spec := "fnExactBehindPrefix", inPlace := ["internal/bytealg.IndexByteString", "internal/bytealg.IndexString"], unfollowed := true, recurses := true, named := ["unicode/utf8.first", "unicode/utf8.acceptRanges", "internal/bytealg.MaxLen"], apart := false, laid := [("unicode/utf8.acceptRanges", laid_unicode_utf8_acceptRanges), ("unicode/utf8.first", laid_unicode_utf8_first)] }
def FnExactBehindPrefixSaid : Prop := fnExactBehindPrefixRow.holds Tryz.pinned (OpenSpec.ofChange fnExactBehindPrefixSpec)

/-- ITS FALSE NEIGHBOUR: 'it returns false'. Refute it at one input. -/
def fnExactBehindPrefixWrong : ChangeSpec := { name := "fnExactBehindPrefix", fn := fun _ => fun
  | [d1, d2] => { results := [.lit (.bool false)], args := [d1, d2] }
  | _ => none }
def FnExactBehindPrefixWrongFalsely : Prop := fnExactBehindPrefixRow.holds Tryz.pinned (OpenSpec.ofChange fnExactBehindPrefixWrong)

/- THE SECOND FORM. 'bulk': how many values and letters a reading holds, each counted each time it is reached (what is shared counts as often as it is met; a slice's spare places count too). A statement '..UptoSaid' is the law's where the arguments, and the package variables that the reading takes, are together of bulk at most 1048576: NARROWER than '..Said'. Prove '..Said' where nothing that the law and all that it calls make is longer than what came in: it says more and counts as full. Else prove '..UptoSaid'. A law counts once. -/
mutual
def uptoBulk {H : Type} : DataW H → Nat
  | .lit (.string bytes) => bytes.length + 1
  | .lit _ => 1
  | .nil => 1
  | .ptr d => uptoBulk d + 1
  | .slice elems spare => uptoBulkAll elems + uptoBulkAll spare + 1
  | .agg parts => uptoBulkAll parts + 1
  | .iface _ d => uptoBulk d + 1
  | .map entries => uptoBulkEntries entries + 1
  | .held _ => 1
def uptoBulkAll {H : Type} : List (DataW H) → Nat
  | [] => 0
  | d :: r => uptoBulk d + uptoBulkAll r
def uptoBulkEntries {H : Type} : List (Lit × DataW H) → Nat
  | [] => 0
  | x :: r => uptoBulkEntry x + uptoBulkEntries r
def uptoBulkEntry {H : Type} : Lit × DataW H → Nat
  | (.string bytes, d) => bytes.length + uptoBulk d + 1
  | (_, d) => uptoBulk d + 1
 end
def uptoSmall : (H : Type) → List (DataW H) → Bool := fun _ ds => decide (uptoBulkAll ds ≤ 1048576)
def OpenSpec.upto (s : _root_.Go.ChangeSpec) : _root_.Go.OpenSpec := { _root_.Go.OpenSpec.ofChange s with cond := some uptoSmall }

/-- 'laws.FnExactTurnTrie', WHERE WHAT IT READS IS OF BULK AT MOST 1048576: true; the input reads as it did. -/
def fnExactTurnTrieUptoRow : OpenClaim := { program := "ytefcbnlljpdjnaagreatdoor", sum := "a698bb0d5a1751d88549ca752f8e8d523444948ca1ac389fdd078946378f886e", func := "loop.example/g01243/laws.FnExactTurnTrie", spec := "fnExactTurnTrie", inPlace := ["internal/bytealg.IndexByteString", "internal/bytealg.IndexString"], unfollowed := true, recurses := true, named := ["unicode/utf8.first", "unicode/utf8.acceptRanges", "internal/bytealg.MaxLen"], apart := false, laid := [("unicode/utf8.acceptRanges", laid_unicode_utf8_acceptRanges), ("unicode/utf8.first", laid_unicode_utf8_first)], narrowed := true }
def FnExactTurnTrieUptoSaid : Prop := fnExactTurnTrieUptoRow.holds Tryz.pinned (OpenSpec.upto fnExactTurnTrieSpec)

/-- 'laws.FnExactWordsUnder', WHERE WHAT IT READS IS OF BULK AT MOST 1048576: true; the input reads as it did. -/
def fnExactWordsUnderUptoRow : OpenClaim := { program := "ytefcbnlljpdjnaagreatdoor", sum := "a698bb0d5a1751d88549ca752f8e8d523444948ca1ac389fdd078946378f886e", func := "loop.example/g01243/laws.FnExactWordsUnder", spec := "fnExactWordsUnder", inPlace := ["internal/bytealg.IndexByteString", "internal/bytealg.IndexString"], unfollowed := true, recurses := true, named := ["unicode/utf8.first", "unicode/utf8.acceptRanges", "internal/bytealg.MaxLen"], apart := false, laid := [("unicode/utf8.acceptRanges", laid_unicode_utf8_acceptRanges), ("unicode/utf8.first", laid_unicode_utf8_first)], narrowed := true }
def FnExactWordsUnderUptoSaid : Prop := fnExactWordsUnderUptoRow.holds Tryz.pinned (OpenSpec.upto fnExactWordsUnderSpec)

/-- 'laws.FnExactBehindPrefix', WHERE WHAT IT READS IS OF BULK AT MOST 1048576: true; the input reads as it did. -/
def fnExactBehindPrefixUptoRow : OpenClaim := { program := "ytefcbnlljpdjnaagreatdoor", sum := "a698bb0d5a1751d88549ca752f8e8d523444948ca1ac389fdd078946378f886e", func := "loop.example/g01243/laws.FnExactBehindPrefix", spec := "fnExactBehindPrefix", inPlace := ["internal/bytealg.IndexByteString", "internal/bytealg.IndexString"], unfollowed := true, recurses := true, named := ["unicode/utf8.first", "unicode/utf8.acceptRanges", "internal/bytealg.MaxLen"], apart := false, laid := [("unicode/utf8.acceptRanges", laid_unicode_utf8_acceptRanges), ("unicode/utf8.first", laid_unicode_utf8_first)], narrowed := true }
def FnExactBehindPrefixUptoSaid : Prop := fnExactBehindPrefixUptoRow.holds Tryz.pinned (OpenSpec.upto fnExactBehindPrefixSpec)

end Rows
end Go.Proofs.YtefcbnlljpdjnaaGreatDoor
