/-
  NARROWER THAN 'FOR EVERY INPUT', by the rows' own cells (each row's printed sentence says how): FnExactTrieOf: laid · FnExactRankOf: laid · FnExactHasWord: laid · FnExactAddWord: laid · FnExactDropWord: laid · FnExactJoinTries: laid · FnExactTimesTrie: laid · FnExactCloseTrie: laid · FnExactShiftTrie: laid.
  DERIVED. THE GIVEN ROWS OF THIS SEAT. 9 by the template 'for every input the law returns true; each argument reads behind the call as it read before'; 0 by the template 'total and deterministic' (their statements: YtefcbnlljpdjnaaDoorTotals.lean).
  GIVEN WITH THE SEED: the statements are not yours to turn. If you find one false, say at which input.
  Laid BY PROGRAM, IN A SANDBOX (cutbox-rows.mjs): the forced cells as the released guide's own fill.sh prints them over the translation 3800fa53402c7ad6… (all of the seat's roots in one cut). By AI agents, Wed Nov 11 2026. No macro, syntax, notation, axiom, sorry.
-/
import Derived.Test.YtefcbnlljpdjnaaDoorChecked
import GoSem.PinnedTables
import GoSem.Claim
import GoSem.ClaimJoined
import GoSem.ClaimMapViews
import Derived.JoinedTies
import Derived.KernelRfl
namespace Go.Proofs.YtefcbnlljpdjnaaDoor
/- THE CELL 'sum', in the pinned program and in every row, IS THE sha256 OF THE DUMP (.gsa) THAT YtefcbnlljpdjnaaDoorProg.lean LOADS. Nothing in Lean hashes anything: it is a label: what it is worth is what the hold of that sum in a sandbox is worth. -/
noncomputable def Tryd.pinned : Pinned := { name := "ytefcbnlljpdjnaadoor", sum := "3800fa53402c7ad6fa594dbda0227ecc700aeaea193fe5bce78b5ab6650e6379", checked := Tryd.checked }
namespace Rows
def none {H : Type} : Left H := { results := [], args := [] }

/- WHAT THE LISTED PACKAGE-LEVEL VARIABLES READ AS WHEN THE CALL BEGINS. Each datum BY PROGRAM (the guide's laid-datum.mjs) off the statement by which the dump's own 'gosem.cut.vars' lays the variable. In a bare row this is a premise. The card (YtefcbnlljpdjnaaDoorCards.lean) ties it to the program's text. -/
def laid_unicode_utf8_acceptRanges {H : Type} : DataW H := .agg [.agg [.lit (.int .u8 128), .lit (.int .u8 191)], .agg [.lit (.int .u8 160), .lit (.int .u8 191)], .agg [.lit (.int .u8 128), .lit (.int .u8 159)], .agg [.lit (.int .u8 144), .lit (.int .u8 191)], .agg [.lit (.int .u8 128), .lit (.int .u8 143)], .agg [.lit (.int .u8 0), .lit (.int .u8 0)], .agg [.lit (.int .u8 0), .lit (.int .u8 0)], .agg [.lit (.int .u8 0), .lit (.int .u8 0)], .agg [.lit (.int .u8 0), .lit (.int .u8 0)], .agg [.lit (.int .u8 0), .lit (.int .u8 0)], .agg [.lit (.int .u8 0), .lit (.int .u8 0)], .agg [.lit (.int .u8 0), .lit (.int .u8 0)], .agg [.lit (.int .u8 0), .lit (.int .u8 0)], .agg [.lit (.int .u8 0), .lit (.int .u8 0)], .agg [.lit (.int .u8 0), .lit (.int .u8 0)], .agg [.lit (.int .u8 0), .lit (.int .u8 0)]]
/-- One of Go's own tables, pinned by name: the form's constant. -/
def laid_unicode_utf8_first : DataW Unit := Go.Pinned.utf8First

/-- 'laws.FnExactTrieOf': WHATEVER THE INPUT: true; the input reads as it did. -/
def fnExactTrieOfSpec : ChangeSpec := { name := "fnExactTrieOf", fn := fun _ => fun
  | [d] => { results := [.lit (.bool true)], args := [d] }
  | _ => none }
def fnExactTrieOfRow : OpenClaim := { program := "ytefcbnlljpdjnaadoor", sum := "3800fa53402c7ad6fa594dbda0227ecc700aeaea193fe5bce78b5ab6650e6379", func := "loop.example/g01243/laws.FnExactTrieOf", spec := "fnExactTrieOf", inPlace := ["internal/bytealg.IndexByteString", "internal/bytealg.IndexString"], unfollowed := true, recurses := true, named := ["unicode/utf8.first", "unicode/utf8.acceptRanges", "internal/bytealg.MaxLen"], apart := false, laid := [("unicode/utf8.acceptRanges", laid_unicode_utf8_acceptRanges), ("unicode/utf8.first", laid_unicode_utf8_first)] }
def FnExactTrieOfSaid : Prop := fnExactTrieOfRow.holds Tryd.pinned (OpenSpec.ofChange fnExactTrieOfSpec)

/-- ITS FALSE NEIGHBOUR: 'it returns false'. Refute it at one input. -/
def fnExactTrieOfWrong : ChangeSpec := { name := "fnExactTrieOf", fn := fun _ => fun
  | [d] => { results := [.lit (.bool false)], args := [d] }
  | _ => none }
def FnExactTrieOfWrongFalsely : Prop := fnExactTrieOfRow.holds Tryd.pinned (OpenSpec.ofChange fnExactTrieOfWrong)

/-- 'laws.FnExactRankOf': WHATEVER THE INPUT: true; the input reads as it did. -/
def fnExactRankOfSpec : ChangeSpec := { name := "fnExactRankOf", fn := fun _ => fun
  | [d1, d2] => { results := [.lit (.bool true)], args := [d1, d2] }
  | _ => none }
def fnExactRankOfRow : OpenClaim := { program := "ytefcbnlljpdjnaadoor", sum := "3800fa53402c7ad6fa594dbda0227ecc700aeaea193fe5bce78b5ab6650e6379", func := "loop.example/g01243/laws.FnExactRankOf", spec := "fnExactRankOf", inPlace := ["internal/bytealg.IndexByteString", "internal/bytealg.IndexString"], unfollowed := true, recurses := true, named := ["unicode/utf8.first", "unicode/utf8.acceptRanges", "internal/bytealg.MaxLen"], apart := false, laid := [("unicode/utf8.acceptRanges", laid_unicode_utf8_acceptRanges), ("unicode/utf8.first", laid_unicode_utf8_first)] }
def FnExactRankOfSaid : Prop := fnExactRankOfRow.holds Tryd.pinned (OpenSpec.ofChange fnExactRankOfSpec)

/-- ITS FALSE NEIGHBOUR: 'it returns false'. Refute it at one input. -/
def fnExactRankOfWrong : ChangeSpec := { name := "fnExactRankOf", fn := fun _ => fun
  | [d1, d2] => { results := [.lit (.bool false)], args := [d1, d2] }
  | _ => none }
def FnExactRankOfWrongFalsely : Prop := fnExactRankOfRow.holds Tryd.pinned (OpenSpec.ofChange fnExactRankOfWrong)

/-- 'laws.FnExactHasWord': WHATEVER THE INPUT: true; the input reads as it did. -/
def fnExactHasWordSpec : ChangeSpec := { name := "fnExactHasWord", fn := fun _ => fun
  | [d1, d2] => { results := [.lit (.bool true)], args := [d1, d2] }
  | _ => none }
def fnExactHasWordRow : OpenClaim := { program := "ytefcbnlljpdjnaadoor", sum := "3800fa53402c7ad6fa594dbda0227ecc700aeaea193fe5bce78b5ab6650e6379", func := "loop.example/g01243/laws.FnExactHasWord", spec := "fnExactHasWord", inPlace := ["internal/bytealg.IndexByteString", "internal/bytealg.IndexString"], unfollowed := true, recurses := true, named := ["unicode/utf8.first", "unicode/utf8.acceptRanges", "internal/bytealg.MaxLen"], apart := false, laid := [("unicode/utf8.acceptRanges", laid_unicode_utf8_acceptRanges), ("unicode/utf8.first", laid_unicode_utf8_first)] }
def FnExactHasWordSaid : Prop := fnExactHasWordRow.holds Tryd.pinned (OpenSpec.ofChange fnExactHasWordSpec)

/-- ITS FALSE NEIGHBOUR: 'it returns false'. Refute it at one input. -/
def fnExactHasWordWrong : ChangeSpec := { name := "fnExactHasWord", fn := fun _ => fun
  | [d1, d2] => { results := [.lit (.bool false)], args := [d1, d2] }
  | _ => none }
def FnExactHasWordWrongFalsely : Prop := fnExactHasWordRow.holds Tryd.pinned (OpenSpec.ofChange fnExactHasWordWrong)

/-- 'laws.FnExactAddWord': WHATEVER THE INPUT: true; the input reads as it did. -/
def fnExactAddWordSpec : ChangeSpec := { name := "fnExactAddWord", fn := fun _ => fun
  | [d1, d2] => { results := [.lit (.bool true)], args := [d1, d2] }
  | _ => none }
def fnExactAddWordRow : OpenClaim := { program := "ytefcbnlljpdjnaadoor", sum := "3800fa53402c7ad6fa594dbda0227ecc700aeaea193fe5bce78b5ab6650e6379", func := "loop.example/g01243/laws.FnExactAddWord", spec := "fnExactAddWord", inPlace := ["internal/bytealg.IndexByteString", "internal/bytealg.IndexString"], unfollowed := true, recurses := true, named := ["unicode/utf8.first", "unicode/utf8.acceptRanges", "internal/bytealg.MaxLen"], apart := false, laid := [("unicode/utf8.acceptRanges", laid_unicode_utf8_acceptRanges), ("unicode/utf8.first", laid_unicode_utf8_first)] }
def FnExactAddWordSaid : Prop := fnExactAddWordRow.holds Tryd.pinned (OpenSpec.ofChange fnExactAddWordSpec)

/-- ITS FALSE NEIGHBOUR: 'it returns false'. Refute it at one input. -/
def fnExactAddWordWrong : ChangeSpec := { name := "fnExactAddWord", fn := fun _ => fun
  | [d1, d2] => { results := [.lit (.bool false)], args := [d1, d2] }
  | _ => none }
def FnExactAddWordWrongFalsely : Prop := fnExactAddWordRow.holds Tryd.pinned (OpenSpec.ofChange fnExactAddWordWrong)

/-- 'laws.FnExactDropWord': WHATEVER THE INPUT: true; the input reads as it did. -/
def fnExactDropWordSpec : ChangeSpec := { name := "fnExactDropWord", fn := fun _ => fun
  | [d1, d2] => { results := [.lit (.bool true)], args := [d1, d2] }
  | _ => none }
def fnExactDropWordRow : OpenClaim := { program := "ytefcbnlljpdjnaadoor", sum := "3800fa53402c7ad6fa594dbda0227ecc700aeaea193fe5bce78b5ab6650e6379", func := "loop.example/g01243/laws.FnExactDropWord", spec := "fnExactDropWord", inPlace := ["internal/bytealg.IndexByteString", "internal/bytealg.IndexString"], unfollowed := true, recurses := true, named := ["unicode/utf8.first", "unicode/utf8.acceptRanges", "internal/bytealg.MaxLen"], apart := false, laid := [("unicode/utf8.acceptRanges", laid_unicode_utf8_acceptRanges), ("unicode/utf8.first", laid_unicode_utf8_first)] }
def FnExactDropWordSaid : Prop := fnExactDropWordRow.holds Tryd.pinned (OpenSpec.ofChange fnExactDropWordSpec)

/-- ITS FALSE NEIGHBOUR: 'it returns false'. Refute it at one input. -/
def fnExactDropWordWrong : ChangeSpec := { name := "fnExactDropWord", fn := fun _ => fun
  | [d1, d2] => { results := [.lit (.bool false)], args := [d1, d2] }
  | _ => none }
def FnExactDropWordWrongFalsely : Prop := fnExactDropWordRow.holds Tryd.pinned (OpenSpec.ofChange fnExactDropWordWrong)

/-- 'laws.FnExactJoinTries': WHATEVER THE INPUT: true; the input reads as it did. -/
def fnExactJoinTriesSpec : ChangeSpec := { name := "fnExactJoinTries", fn := fun _ => fun
  | [d1, d2] => { results := [.lit (.bool true)], args := [d1, d2] }
  | _ => none }
def fnExactJoinTriesRow : OpenClaim := { program := "ytefcbnlljpdjnaadoor", sum := "3800fa53402c7ad6fa594dbda0227ecc700aeaea193fe5bce78b5ab6650e6379", func := "loop.example/g01243/laws.FnExactJoinTries", spec := "fnExactJoinTries", inPlace := ["internal/bytealg.IndexByteString", "internal/bytealg.IndexString"], unfollowed := true, recurses := true, named := ["unicode/utf8.first", "unicode/utf8.acceptRanges", "internal/bytealg.MaxLen"], apart := false, laid := [("unicode/utf8.acceptRanges", laid_unicode_utf8_acceptRanges), ("unicode/utf8.first", laid_unicode_utf8_first)] }
def FnExactJoinTriesSaid : Prop := fnExactJoinTriesRow.holds Tryd.pinned (OpenSpec.ofChange fnExactJoinTriesSpec)

/-- ITS FALSE NEIGHBOUR: 'it returns false'. Refute it at one input. -/
def fnExactJoinTriesWrong : ChangeSpec := { name := "fnExactJoinTries", fn := fun _ => fun
  | [d1, d2] => { results := [.lit (.bool false)], args := [d1, d2] }
  | _ => none }
def FnExactJoinTriesWrongFalsely : Prop := fnExactJoinTriesRow.holds Tryd.pinned (OpenSpec.ofChange fnExactJoinTriesWrong)

/-- 'laws.FnExactTimesTrie': WHATEVER THE INPUT: true; the input reads as it did. -/
def fnExactTimesTrieSpec : ChangeSpec := { name := "fnExactTimesTrie", fn := fun _ => fun
  | [d1, d2] => { results := [.lit (.bool true)], args := [d1, d2] }
  | _ => none }
def fnExactTimesTrieRow : OpenClaim := { program := "ytefcbnlljpdjnaadoor", sum := "3800fa53402c7ad6fa594dbda0227ecc700aeaea193fe5bce78b5ab6650e6379", func := "loop.example/g01243/laws.FnExactTimesTrie", spec := "fnExactTimesTrie", inPlace := ["internal/bytealg.IndexByteString", "internal/bytealg.IndexString"], unfollowed := true, recurses := true, named := ["unicode/utf8.first", "unicode/utf8.acceptRanges", "internal/bytealg.MaxLen"], apart := false, laid := [("unicode/utf8.acceptRanges", laid_unicode_utf8_acceptRanges), ("unicode/utf8.first", laid_unicode_utf8_first)] }
def FnExactTimesTrieSaid : Prop := fnExactTimesTrieRow.holds Tryd.pinned (OpenSpec.ofChange fnExactTimesTrieSpec)

/-- ITS FALSE NEIGHBOUR: 'it returns false'. Refute it at one input. -/
def fnExactTimesTrieWrong : ChangeSpec := { name := "fnExactTimesTrie", fn := fun _ => fun
  | [d1, d2] => { results := [.lit (.bool false)], args := [d1, d2] }
  | _ => none }
def FnExactTimesTrieWrongFalsely : Prop := fnExactTimesTrieRow.holds Tryd.pinned (OpenSpec.ofChange fnExactTimesTrieWrong)

/-- 'laws.FnExactCloseTrie': WHATEVER THE INPUT: true; the input reads as it did. -/
def fnExactCloseTrieSpec : ChangeSpec := { name := "fnExactCloseTrie", fn := fun _ => fun
  | [d] => { results := [.lit (.bool true)], args := [d] }
  | _ => none }
def fnExactCloseTrieRow : OpenClaim := { program := "ytefcbnlljpdjnaadoor", sum := "3800fa53402c7ad6fa594dbda0227ecc700aeaea193fe5bce78b5ab6650e6379", func := "loop.example/g01243/laws.FnExactCloseTrie", spec := "fnExactCloseTrie", inPlace := ["internal/bytealg.IndexByteString", "internal/bytealg.IndexString"], unfollowed := true, recurses := true, named := ["unicode/utf8.first", "unicode/utf8.acceptRanges", "internal/bytealg.MaxLen"], apart := false, laid := [("unicode/utf8.acceptRanges", laid_unicode_utf8_acceptRanges), ("unicode/utf8.first", laid_unicode_utf8_first)] }
def FnExactCloseTrieSaid : Prop := fnExactCloseTrieRow.holds Tryd.pinned (OpenSpec.ofChange fnExactCloseTrieSpec)

/-- ITS FALSE NEIGHBOUR: 'it returns false'. Refute it at one input. -/
def fnExactCloseTrieWrong : ChangeSpec := { name := "fnExactCloseTrie", fn := fun _ => fun
  | [d] => { results := [.lit (.bool false)], args := [d] }
  | _ => none }
def FnExactCloseTrieWrongFalsely : Prop := fnExactCloseTrieRow.holds Tryd.pinned (OpenSpec.ofChange fnExactCloseTrieWrong)

/-- 'laws.FnExactShiftTrie': WHATEVER THE INPUT: true; the input reads as it did. -/
def fnExactShiftTrieSpec : ChangeSpec := { name := "fnExactShiftTrie", fn := fun _ => fun
  | [d1, d2] => { results := [.lit (.bool true)], args := [d1, d2] }
  | _ => none }
def fnExactShiftTrieRow : OpenClaim := { program := "ytefcbnlljpdjnaadoor", sum := "3800fa53402c7ad6fa594dbda0227ecc700aeaea193fe5bce78b5ab6650e6379", func := "loop.example/g01243/laws.FnExactShiftTrie", spec := "fnExactShiftTrie", inPlace := ["internal/bytealg.IndexByteString", "internal/bytealg.IndexString"], unfollowed := true, recurses := true, named := ["unicode/utf8.first", "unicode/utf8.acceptRanges", "internal/bytealg.MaxLen"], apart := false, laid := [("unicode/utf8.acceptRanges", laid_unicode_utf8_acceptRanges), ("unicode/utf8.first", laid_unicode_utf8_first)] }
def FnExactShiftTrieSaid : Prop := fnExactShiftTrieRow.holds Tryd.pinned (OpenSpec.ofChange fnExactShiftTrieSpec)

/-- ITS FALSE NEIGHBOUR: 'it returns false'. Refute it at one input. -/
def fnExactShiftTrieWrong : ChangeSpec := { name := "fnExactShiftTrie", fn := fun _ => fun
  | [d1, d2] => { results := [.lit (.bool false)], args := [d1, d2] }
  | _ => none }
def FnExactShiftTrieWrongFalsely : Prop := fnExactShiftTrieRow.holds Tryd.pinned (OpenSpec.ofChange fnExactShiftTrieWrong)

/- THE SECOND FORM. 'bulk': how many values and letters a reading holds, each counted each time it is reached (what is shared counts as often as it is met; a slice's spare places count too). A statement '..UptoSaid' is the law's where the arguments, and the package variables that the reading takes, are together of bulk at most 1048576: NARROWER than '..Said'. Prove '..Said' where nothing that the law and all that it calls make is longer than what came in: it says more and counts as full. Else prove '..UptoSaid'. A law counts once. -/
mutual
def uptoBulk {H : Type} : DataW H → Nat
  | .lit (.string bytes) => bytes.length + 1
  | .lit _ => 1
  | .nil => 1
  | .ptr d => uptoBulk d + 1
  | .slice elems spare => uptoBulkAll elems + uptoBulkAll spare + 1
  | .agg parts => uptoBulkAll parts + 1
  | .iface _ d => uptoBulk d + 1
  | .map entries => uptoBulkEntries entries + 1
  | .held _ => 1
def uptoBulkAll {H : Type} : List (DataW H) → Nat
  | [] => 0
  | d :: r => uptoBulk d + uptoBulkAll r
def uptoBulkEntries {H : Type} : List (Lit × DataW H) → Nat
  | [] => 0
  | x :: r => uptoBulkEntry x + uptoBulkEntries r
def uptoBulkEntry {H : Type} : Lit × DataW H → Nat
  | (.string bytes, d) => bytes.length + uptoBulk d + 1
  | (_, d) => uptoBulk d + 1
 end
def uptoSmall : (H : Type) → List (DataW H) → Bool := fun _ ds => decide (uptoBulkAll ds ≤ 1048576)
def OpenSpec.upto (s : _root_.Go.ChangeSpec) : _root_.Go.OpenSpec := { _root_.Go.OpenSpec.ofChange s with cond := some uptoSmall }

/-- 'laws.FnExactTrieOf', WHERE WHAT IT READS IS OF BULK AT MOST 1048576: true; the input reads as it did. -/
def fnExactTrieOfUptoRow : OpenClaim := { program := "ytefcbnlljpdjnaadoor", sum := "3800fa53402c7ad6fa594dbda0227ecc700aeaea193fe5bce78b5ab6650e6379", func := "loop.example/g01243/laws.FnExactTrieOf", spec := "fnExactTrieOf", inPlace := ["internal/bytealg.IndexByteString", "internal/bytealg.IndexString"], unfollowed := true, recurses := true, named := ["unicode/utf8.first", "unicode/utf8.acceptRanges", "internal/bytealg.MaxLen"], apart := false, laid := [("unicode/utf8.acceptRanges", laid_unicode_utf8_acceptRanges), ("unicode/utf8.first", laid_unicode_utf8_first)], narrowed := true }
def FnExactTrieOfUptoSaid : Prop := fnExactTrieOfUptoRow.holds Tryd.pinned (OpenSpec.upto fnExactTrieOfSpec)

/-- 'laws.FnExactRankOf', WHERE WHAT IT READS IS OF BULK AT MOST 1048576: true; the input reads as it did. -/
def fnExactRankOfUptoRow : OpenClaim := { program := "ytefcbnlljpdjnaadoor", sum := "3800fa53402c7ad6fa594dbda0227ecc700aeaea193fe5bce78b5ab6650e6379", func := "loop.example/g01243/laws.FnExactRankOf", spec := "fnExactRankOf", inPlace := ["internal/bytealg.IndexByteString", "internal/bytealg.IndexString"], unfollowed := true, recurses := true, named := ["unicode/utf8.first", "unicode/utf8.acceptRanges", "internal/bytealg.MaxLen"], apart := false, laid := [("unicode/utf8.acceptRanges", laid_unicode_utf8_acceptRanges), ("unicode/utf8.first", laid_unicode_utf8_first)], narrowed := true }
def FnExactRankOfUptoSaid : Prop := fnExactRankOfUptoRow.holds Tryd.pinned (OpenSpec.upto fnExactRankOfSpec)

/-- 'laws.FnExactHasWord', WHERE WHAT IT READS IS OF BULK AT MOST 1048576: true; the input reads as it did. -/
def fnExactHasWordUptoRow : OpenClaim := { program := "ytefcbnlljpdjnaadoor", sum := "3800fa53402c7ad6fa594dbda0227ecc700aeaea193fe5bce78b5ab6650e6379", func := "loop.example/g01243/laws.FnExactHasWord", spec := "fnExactHasWord", inPlace := ["internal/bytealg.IndexByteString", "internal/bytealg.IndexString"], unfollowed := true, recurses := true, named := ["unicode/utf8.first", "unicode/utf8.acceptRanges", "internal/bytealg.MaxLen"], apart := false, laid := [("unicode/utf8.acceptRanges", laid_unicode_utf8_acceptRanges), ("unicode/utf8.first", laid_unicode_utf8_first)], narrowed := true }
def FnExactHasWordUptoSaid : Prop := fnExactHasWordUptoRow.holds Tryd.pinned (OpenSpec.upto fnExactHasWordSpec)

/-- 'laws.FnExactAddWord', WHERE WHAT IT READS IS OF BULK AT MOST 1048576: true; the input reads as it did. -/
def fnExactAddWordUptoRow : OpenClaim := { program := "ytefcbnlljpdjnaadoor", sum := "3800fa53402c7ad6fa594dbda0227ecc700aeaea193fe5bce78b5ab6650e6379", func := "loop.example/g01243/laws.FnExactAddWord", spec := "fnExactAddWord", inPlace := ["internal/bytealg.IndexByteString", "internal/bytealg.IndexString"], unfollowed := true, recurses := true, named := ["unicode/utf8.first", "unicode/utf8.acceptRanges", "internal/bytealg.MaxLen"], apart := false, laid := [("unicode/utf8.acceptRanges", laid_unicode_utf8_acceptRanges), ("unicode/utf8.first", laid_unicode_utf8_first)], narrowed := true }
def FnExactAddWordUptoSaid : Prop := fnExactAddWordUptoRow.holds Tryd.pinned (OpenSpec.upto fnExactAddWordSpec)

/-- 'laws.FnExactDropWord', WHERE WHAT IT READS IS OF BULK AT MOST 1048576: true; the input reads as it did. -/
def fnExactDropWordUptoRow : OpenClaim := { program := "ytefcbnlljpdjnaadoor", sum := "3800fa53402c7ad6fa594dbda0227ecc700aeaea193fe5bce78b5ab6650e6379", func := "loop.example/g01243/laws.FnExactDropWord", spec := "fnExactDropWord", inPlace := ["internal/bytealg.IndexByteString", "internal/bytealg.IndexString"], unfollowed := true, recurses := true, named := ["unicode/utf8.first", "unicode/utf8.acceptRanges", "internal/bytealg.MaxLen"], apart := false, laid := [("unicode/utf8.acceptRanges", laid_unicode_utf8_acceptRanges), ("unicode/utf8.first", laid_unicode_utf8_first)], narrowed := true }
def FnExactDropWordUptoSaid : Prop := fnExactDropWordUptoRow.holds Tryd.pinned (OpenSpec.upto fnExactDropWordSpec)

/-- 'laws.FnExactJoinTries', WHERE WHAT IT READS IS OF BULK AT MOST 1048576: true; the input reads as it did. -/
def fnExactJoinTriesUptoRow : OpenClaim := { program := "ytefcbnlljpdjnaadoor", sum := "3800fa53402c7ad6fa594dbda0227ecc700aeaea193fe5bce78b5ab6650e6379", func := "loop.example/g01243/laws.FnExactJoinTries", spec := "fnExactJoinTries", inPlace := ["internal/bytealg.IndexByteString", "internal/bytealg.IndexString"], unfollowed := true, recurses := true, named := ["unicode/utf8.first", "unicode/utf8.acceptRanges", "internal/bytealg.MaxLen"], apart := false, laid := [("unicode/utf8.acceptRanges", laid_unicode_utf8_acceptRanges), ("unicode/utf8.first", laid_unicode_utf8_first)], narrowed := true }
def FnExactJoinTriesUptoSaid : Prop := fnExactJoinTriesUptoRow.holds Tryd.pinned (OpenSpec.upto fnExactJoinTriesSpec)

/-- 'laws.FnExactTimesTrie', WHERE WHAT IT READS IS OF BULK AT MOST 1048576: true; the input reads as it did. -/
def fnExactTimesTrieUptoRow : OpenClaim := { program := "ytefcbnlljpdjnaadoor", sum := "3800fa53402c7ad6fa594dbda0227ecc700aeaea193fe5bce78b5ab6650e6379", func := "loop.example/g01243/laws.FnExactTimesTrie", spec := "fnExactTimesTrie", inPlace := ["internal/bytealg.IndexByteString", "internal/bytealg.IndexString"], unfollowed := true, recurses := true, named := ["unicode/utf8.first", "unicode/utf8.acceptRanges", "internal/bytealg.MaxLen"], apart := false, laid := [("unicode/utf8.acceptRanges", laid_unicode_utf8_acceptRanges), ("unicode/utf8.first", laid_unicode_utf8_first)], narrowed := true }
def FnExactTimesTrieUptoSaid : Prop := fnExactTimesTrieUptoRow.holds Tryd.pinned (OpenSpec.upto fnExactTimesTrieSpec)

/-- 'laws.FnExactCloseTrie', WHERE WHAT IT READS IS OF BULK AT MOST 1048576: true; the input reads as it did. -/
def fnExactCloseTrieUptoRow : OpenClaim := { program := "ytefcbnlljpdjnaadoor", sum := "3800fa53402c7ad6fa594dbda0227ecc700aeaea193fe5bce78b5ab6650e6379", func := "loop.example/g01243/laws.FnExactCloseTrie", spec := "fnExactCloseTrie", inPlace := ["internal/bytealg.IndexByteString", "internal/bytealg.IndexString"], unfollowed := true, recurses := true, named := ["unicode/utf8.first", "unicode/utf8.acceptRanges", "internal/bytealg.MaxLen"], apart := false, laid := [("unicode/utf8.acceptRanges", laid_unicode_utf8_acceptRanges), ("unicode/utf8.first", laid_unicode_utf8_first)], narrowed := true }
def FnExactCloseTrieUptoSaid : Prop := fnExactCloseTrieUptoRow.holds Tryd.pinned (OpenSpec.upto fnExactCloseTrieSpec)

/-- 'laws.FnExactShiftTrie', WHERE WHAT IT READS IS OF BULK AT MOST 1048576: true; the input reads as it did. -/
def fnExactShiftTrieUptoRow : OpenClaim := { program := "ytefcbnlljpdjnaadoor", sum := "3800fa53402c7ad6fa594dbda0227ecc700aeaea193fe5bce78b5ab6650e6379", func := "loop.example/g01243/laws.FnExactShiftTrie", spec := "fnExactShiftTrie", inPlace := ["internal/bytealg.IndexByteString", "internal/bytealg.IndexString"], unfollowed := true, recurses := true, named := ["unicode/utf8.first", "unicode/utf8.acceptRanges", "internal/bytealg.MaxLen"], apart := false, laid := [("unicode/utf8.acceptRanges", laid_unicode_utf8_acceptRanges), ("unicode/utf8.first", laid_unicode_utf8_first)], narrowed := true }
def FnExactShiftTrieUptoSaid : Prop := fnExactShiftTrieUptoRow.holds Tryd.pinned (OpenSpec.upto fnExactShiftTrieSpec)

end Rows
end Go.Proofs.YtefcbnlljpdjnaaDoor
