/-
  No cell of these rows narrows 'for every input' (looked for: loops, veiled, ifaces, maps, wideKeys, modest, calm, conditions, laid).
  DERIVED. THE GIVEN ROWS OF THIS SEAT. 12 by the template 'for every input the law returns true; each argument reads behind the call as it read before'; 0 by the template 'total and deterministic' (their statements: YtbedgcngoddkdaaTotals.lean).
  GIVEN WITH THE SEED: the statements are not yours to turn. If you find one false, say at which input.
  Laid BY PROGRAM, IN A SANDBOX (cutbox-rows.mjs): the forced cells as the released guide's own fill.sh prints them over the translation 811e291cad1fc746… (all of the seat's roots in one cut). By AI agents, Wed Nov 11 2026. No macro, syntax, notation, axiom, sorry.
-/
import Derived.Test.YtbedgcngoddkdaaChecked
import GoSem.Claim
import GoSem.ClaimJoined
import GoSem.ClaimMapViews
import Derived.JoinedTies
import Derived.KernelRfl
namespace Go.Proofs.Ytbedgcngoddkdaa
/- THE CELL 'sum', in the pinned program and in every row, IS THE sha256 OF THE DUMP (.gsa) THAT YtbedgcngoddkdaaProg.lean LOADS. Nothing in Lean hashes anything: it is a label: what it is worth is what the hold of that sum in a sandbox is worth. -/
noncomputable def Try.pinned : Pinned := { name := "ytbedgcngoddkdaa", sum := "811e291cad1fc7460d676385a27fca3b5e0ef9cf1797fe06aeee13a35e983f90", checked := Try.checked }
namespace Rows
def none {H : Type} : Left H := { results := [], args := [] }

/-- 'laws.FnExactIsClosed': WHATEVER THE INPUT: true; the input reads as it did. -/
def fnExactIsClosedSpec : ChangeSpec := { name := "fnExactIsClosed", fn := fun _ => fun
  | [d] => { results := [.lit (.bool true)], args := [d] }
  | _ => none }
def fnExactIsClosedRow : OpenClaim := { program := "ytbedgcngoddkdaa", sum := "811e291cad1fc7460d676385a27fca3b5e0ef9cf1797fe06aeee13a35e983f90", func := "loop.example/g01243/laws.FnExactIsClosed", spec := "fnExactIsClosed", unfollowed := true, recurses := true, apart := false }
def FnExactIsClosedSaid : Prop := fnExactIsClosedRow.holds Try.pinned (OpenSpec.ofChange fnExactIsClosedSpec)

/-- ITS FALSE NEIGHBOUR: 'it returns false'. Refute it at one input. -/
def fnExactIsClosedWrong : ChangeSpec := { name := "fnExactIsClosed", fn := fun _ => fun
  | [d] => { results := [.lit (.bool false)], args := [d] }
  | _ => none }
def FnExactIsClosedWrongFalsely : Prop := fnExactIsClosedRow.holds Try.pinned (OpenSpec.ofChange fnExactIsClosedWrong)

/-- 'laws.FnExactIsPartTrie': WHATEVER THE INPUT: true; the input reads as it did. -/
def fnExactIsPartTrieSpec : ChangeSpec := { name := "fnExactIsPartTrie", fn := fun _ => fun
  | [d1, d2] => { results := [.lit (.bool true)], args := [d1, d2] }
  | _ => none }
def fnExactIsPartTrieRow : OpenClaim := { program := "ytbedgcngoddkdaa", sum := "811e291cad1fc7460d676385a27fca3b5e0ef9cf1797fe06aeee13a35e983f90", func := "loop.example/g01243/laws.FnExactIsPartTrie", spec := "fnExactIsPartTrie", unfollowed := true, recurses := true, apart := false }
def FnExactIsPartTrieSaid : Prop := fnExactIsPartTrieRow.holds Try.pinned (OpenSpec.ofChange fnExactIsPartTrieSpec)

/-- ITS FALSE NEIGHBOUR: 'it returns false'. Refute it at one input. -/
def fnExactIsPartTrieWrong : ChangeSpec := { name := "fnExactIsPartTrie", fn := fun _ => fun
  | [d1, d2] => { results := [.lit (.bool false)], args := [d1, d2] }
  | _ => none }
def FnExactIsPartTrieWrongFalsely : Prop := fnExactIsPartTrieRow.holds Try.pinned (OpenSpec.ofChange fnExactIsPartTrieWrong)

/-- 'laws.FnExactSharedPrefix': WHATEVER THE INPUT: true; the input reads as it did. -/
def fnExactSharedPrefixSpec : ChangeSpec := { name := "fnExactSharedPrefix", fn := fun _ => fun
  | [d] => { results := [.lit (.bool true)], args := [d] }
  | _ => none }
def fnExactSharedPrefixRow : OpenClaim := { program := "ytbedgcngoddkdaa", sum := "811e291cad1fc7460d676385a27fca3b5e0ef9cf1797fe06aeee13a35e983f90", func := "loop.example/g01243/laws.FnExactSharedPrefix", spec := "fnExactSharedPrefix", unfollowed := true, recurses := true, apart := false }
def FnExactSharedPrefixSaid : Prop := fnExactSharedPrefixRow.holds Try.pinned (OpenSpec.ofChange fnExactSharedPrefixSpec)

/-- ITS FALSE NEIGHBOUR: 'it returns false'. Refute it at one input. -/
def fnExactSharedPrefixWrong : ChangeSpec := { name := "fnExactSharedPrefix", fn := fun _ => fun
  | [d] => { results := [.lit (.bool false)], args := [d] }
  | _ => none }
def FnExactSharedPrefixWrongFalsely : Prop := fnExactSharedPrefixRow.holds Try.pinned (OpenSpec.ofChange fnExactSharedPrefixWrong)

/-- 'laws.FnExactIsFree': WHATEVER THE INPUT: true; the input reads as it did. -/
def fnExactIsFreeSpec : ChangeSpec := { name := "fnExactIsFree", fn := fun _ => fun
  | [d] => { results := [.lit (.bool true)], args := [d] }
  | _ => none }
def fnExactIsFreeRow : OpenClaim := { program := "ytbedgcngoddkdaa", sum := "811e291cad1fc7460d676385a27fca3b5e0ef9cf1797fe06aeee13a35e983f90", func := "loop.example/g01243/laws.FnExactIsFree", spec := "fnExactIsFree", unfollowed := true, recurses := true, apart := false }
def FnExactIsFreeSaid : Prop := fnExactIsFreeRow.holds Try.pinned (OpenSpec.ofChange fnExactIsFreeSpec)

/-- ITS FALSE NEIGHBOUR: 'it returns false'. Refute it at one input. -/
def fnExactIsFreeWrong : ChangeSpec := { name := "fnExactIsFree", fn := fun _ => fun
  | [d] => { results := [.lit (.bool false)], args := [d] }
  | _ => none }
def FnExactIsFreeWrongFalsely : Prop := fnExactIsFreeRow.holds Try.pinned (OpenSpec.ofChange fnExactIsFreeWrong)

/-- 'laws.FnExactDifferTries': WHATEVER THE INPUT: true; the input reads as it did. -/
def fnExactDifferTriesSpec : ChangeSpec := { name := "fnExactDifferTries", fn := fun _ => fun
  | [d1, d2] => { results := [.lit (.bool true)], args := [d1, d2] }
  | _ => none }
def fnExactDifferTriesRow : OpenClaim := { program := "ytbedgcngoddkdaa", sum := "811e291cad1fc7460d676385a27fca3b5e0ef9cf1797fe06aeee13a35e983f90", func := "loop.example/g01243/laws.FnExactDifferTries", spec := "fnExactDifferTries", unfollowed := true, recurses := true, apart := false }
def FnExactDifferTriesSaid : Prop := fnExactDifferTriesRow.holds Try.pinned (OpenSpec.ofChange fnExactDifferTriesSpec)

/-- ITS FALSE NEIGHBOUR: 'it returns false'. Refute it at one input. -/
def fnExactDifferTriesWrong : ChangeSpec := { name := "fnExactDifferTries", fn := fun _ => fun
  | [d1, d2] => { results := [.lit (.bool false)], args := [d1, d2] }
  | _ => none }
def FnExactDifferTriesWrongFalsely : Prop := fnExactDifferTriesRow.holds Try.pinned (OpenSpec.ofChange fnExactDifferTriesWrong)

/-- 'laws.FnExactCountBranches': WHATEVER THE INPUT: true; the input reads as it did. -/
def fnExactCountBranchesSpec : ChangeSpec := { name := "fnExactCountBranches", fn := fun _ => fun
  | [d] => { results := [.lit (.bool true)], args := [d] }
  | _ => none }
def fnExactCountBranchesRow : OpenClaim := { program := "ytbedgcngoddkdaa", sum := "811e291cad1fc7460d676385a27fca3b5e0ef9cf1797fe06aeee13a35e983f90", func := "loop.example/g01243/laws.FnExactCountBranches", spec := "fnExactCountBranches", unfollowed := true, recurses := true, apart := false }
def FnExactCountBranchesSaid : Prop := fnExactCountBranchesRow.holds Try.pinned (OpenSpec.ofChange fnExactCountBranchesSpec)

/-- ITS FALSE NEIGHBOUR: 'it returns false'. Refute it at one input. -/
def fnExactCountBranchesWrong : ChangeSpec := { name := "fnExactCountBranches", fn := fun _ => fun
  | [d] => { results := [.lit (.bool false)], args := [d] }
  | _ => none }
def FnExactCountBranchesWrongFalsely : Prop := fnExactCountBranchesRow.holds Try.pinned (OpenSpec.ofChange fnExactCountBranchesWrong)

/-- 'laws.FnExactStayingNodes': WHATEVER THE INPUT: true; the input reads as it did. -/
def fnExactStayingNodesSpec : ChangeSpec := { name := "fnExactStayingNodes", fn := fun _ => fun
  | [d] => { results := [.lit (.bool true)], args := [d] }
  | _ => none }
def fnExactStayingNodesRow : OpenClaim := { program := "ytbedgcngoddkdaa", sum := "811e291cad1fc7460d676385a27fca3b5e0ef9cf1797fe06aeee13a35e983f90", func := "loop.example/g01243/laws.FnExactStayingNodes", spec := "fnExactStayingNodes", unfollowed := true, recurses := true, apart := false }
def FnExactStayingNodesSaid : Prop := fnExactStayingNodesRow.holds Try.pinned (OpenSpec.ofChange fnExactStayingNodesSpec)

/-- ITS FALSE NEIGHBOUR: 'it returns false'. Refute it at one input. -/
def fnExactStayingNodesWrong : ChangeSpec := { name := "fnExactStayingNodes", fn := fun _ => fun
  | [d] => { results := [.lit (.bool false)], args := [d] }
  | _ => none }
def FnExactStayingNodesWrongFalsely : Prop := fnExactStayingNodesRow.holds Try.pinned (OpenSpec.ofChange fnExactStayingNodesWrong)

/-- 'laws.FnExactMeetTries': WHATEVER THE INPUT: true; the input reads as it did. -/
def fnExactMeetTriesSpec : ChangeSpec := { name := "fnExactMeetTries", fn := fun _ => fun
  | [d1, d2] => { results := [.lit (.bool true)], args := [d1, d2] }
  | _ => none }
def fnExactMeetTriesRow : OpenClaim := { program := "ytbedgcngoddkdaa", sum := "811e291cad1fc7460d676385a27fca3b5e0ef9cf1797fe06aeee13a35e983f90", func := "loop.example/g01243/laws.FnExactMeetTries", spec := "fnExactMeetTries", unfollowed := true, recurses := true, apart := false }
def FnExactMeetTriesSaid : Prop := fnExactMeetTriesRow.holds Try.pinned (OpenSpec.ofChange fnExactMeetTriesSpec)

/-- ITS FALSE NEIGHBOUR: 'it returns false'. Refute it at one input. -/
def fnExactMeetTriesWrong : ChangeSpec := { name := "fnExactMeetTries", fn := fun _ => fun
  | [d1, d2] => { results := [.lit (.bool false)], args := [d1, d2] }
  | _ => none }
def FnExactMeetTriesWrongFalsely : Prop := fnExactMeetTriesRow.holds Try.pinned (OpenSpec.ofChange fnExactMeetTriesWrong)

/-- 'laws.FnExactWithoutTrie': WHATEVER THE INPUT: true; the input reads as it did. -/
def fnExactWithoutTrieSpec : ChangeSpec := { name := "fnExactWithoutTrie", fn := fun _ => fun
  | [d1, d2] => { results := [.lit (.bool true)], args := [d1, d2] }
  | _ => none }
def fnExactWithoutTrieRow : OpenClaim := { program := "ytbedgcngoddkdaa", sum := "811e291cad1fc7460d676385a27fca3b5e0ef9cf1797fe06aeee13a35e983f90", func := "loop.example/g01243/laws.FnExactWithoutTrie", spec := "fnExactWithoutTrie", unfollowed := true, recurses := true, apart := false }
def FnExactWithoutTrieSaid : Prop := fnExactWithoutTrieRow.holds Try.pinned (OpenSpec.ofChange fnExactWithoutTrieSpec)

/-- ITS FALSE NEIGHBOUR: 'it returns false'. Refute it at one input. -/
def fnExactWithoutTrieWrong : ChangeSpec := { name := "fnExactWithoutTrie", fn := fun _ => fun
  | [d1, d2] => { results := [.lit (.bool false)], args := [d1, d2] }
  | _ => none }
def FnExactWithoutTrieWrongFalsely : Prop := fnExactWithoutTrieRow.holds Try.pinned (OpenSpec.ofChange fnExactWithoutTrieWrong)

/-- 'laws.FnExactFirstWords': WHATEVER THE INPUT: true; the input reads as it did. -/
def fnExactFirstWordsSpec : ChangeSpec := { name := "fnExactFirstWords", fn := fun _ => fun
  | [d] => { results := [.lit (.bool true)], args := [d] }
  | _ => none }
def fnExactFirstWordsRow : OpenClaim := { program := "ytbedgcngoddkdaa", sum := "811e291cad1fc7460d676385a27fca3b5e0ef9cf1797fe06aeee13a35e983f90", func := "loop.example/g01243/laws.FnExactFirstWords", spec := "fnExactFirstWords", unfollowed := true, recurses := true, apart := false }
def FnExactFirstWordsSaid : Prop := fnExactFirstWordsRow.holds Try.pinned (OpenSpec.ofChange fnExactFirstWordsSpec)

/-- ITS FALSE NEIGHBOUR: 'it returns false'. Refute it at one input. -/
def fnExactFirstWordsWrong : ChangeSpec := { name := "fnExactFirstWords", fn := fun _ => fun
  | [d] => { results := [.lit (.bool false)], args := [d] }
  | _ => none }
def FnExactFirstWordsWrongFalsely : Prop := fnExactFirstWordsRow.holds Try.pinned (OpenSpec.ofChange fnExactFirstWordsWrong)

/-- 'laws.FnExactLastWords': WHATEVER THE INPUT: true; the input reads as it did. -/
def fnExactLastWordsSpec : ChangeSpec := { name := "fnExactLastWords", fn := fun _ => fun
  | [d] => { results := [.lit (.bool true)], args := [d] }
  | _ => none }
def fnExactLastWordsRow : OpenClaim := { program := "ytbedgcngoddkdaa", sum := "811e291cad1fc7460d676385a27fca3b5e0ef9cf1797fe06aeee13a35e983f90", func := "loop.example/g01243/laws.FnExactLastWords", spec := "fnExactLastWords", unfollowed := true, recurses := true, apart := false }
def FnExactLastWordsSaid : Prop := fnExactLastWordsRow.holds Try.pinned (OpenSpec.ofChange fnExactLastWordsSpec)

/-- ITS FALSE NEIGHBOUR: 'it returns false'. Refute it at one input. -/
def fnExactLastWordsWrong : ChangeSpec := { name := "fnExactLastWords", fn := fun _ => fun
  | [d] => { results := [.lit (.bool false)], args := [d] }
  | _ => none }
def FnExactLastWordsWrongFalsely : Prop := fnExactLastWordsRow.holds Try.pinned (OpenSpec.ofChange fnExactLastWordsWrong)

/-- 'laws.FnExactPressTrie': WHATEVER THE INPUT: true; the input reads as it did. -/
def fnExactPressTrieSpec : ChangeSpec := { name := "fnExactPressTrie", fn := fun _ => fun
  | [d] => { results := [.lit (.bool true)], args := [d] }
  | _ => none }
def fnExactPressTrieRow : OpenClaim := { program := "ytbedgcngoddkdaa", sum := "811e291cad1fc7460d676385a27fca3b5e0ef9cf1797fe06aeee13a35e983f90", func := "loop.example/g01243/laws.FnExactPressTrie", spec := "fnExactPressTrie", unfollowed := true, recurses := true, apart := false }
def FnExactPressTrieSaid : Prop := fnExactPressTrieRow.holds Try.pinned (OpenSpec.ofChange fnExactPressTrieSpec)

/-- ITS FALSE NEIGHBOUR: 'it returns false'. Refute it at one input. -/
def fnExactPressTrieWrong : ChangeSpec := { name := "fnExactPressTrie", fn := fun _ => fun
  | [d] => { results := [.lit (.bool false)], args := [d] }
  | _ => none }
def FnExactPressTrieWrongFalsely : Prop := fnExactPressTrieRow.holds Try.pinned (OpenSpec.ofChange fnExactPressTrieWrong)

/- THE SECOND FORM. 'bulk': how many values and letters a reading holds, each counted each time it is reached (what is shared counts as often as it is met; a slice's spare places count too). A statement '..UptoSaid' is the law's where the arguments, and the package variables that the reading takes, are together of bulk at most 1048576: NARROWER than '..Said'. Prove '..Said' where nothing that the law and all that it calls make is longer than what came in: it says more and counts as full. Else prove '..UptoSaid'. A law counts once. -/
mutual
def uptoBulk {H : Type} : DataW H → Nat
  | .lit (.string bytes) => bytes.length + 1
  | .lit _ => 1
  | .nil => 1
  | .ptr d => uptoBulk d + 1
  | .slice elems spare => uptoBulkAll elems + uptoBulkAll spare + 1
  | .agg parts => uptoBulkAll parts + 1
  | .iface _ d => uptoBulk d + 1
  | .map entries => uptoBulkEntries entries + 1
  | .held _ => 1
def uptoBulkAll {H : Type} : List (DataW H) → Nat
  | [] => 0
  | d :: r => uptoBulk d + uptoBulkAll r
def uptoBulkEntries {H : Type} : List (Lit × DataW H) → Nat
  | [] => 0
  | x :: r => uptoBulkEntry x + uptoBulkEntries r
def uptoBulkEntry {H : Type} : Lit × DataW H → Nat
  | (.string bytes, d) => bytes.length + uptoBulk d + 1
  | (_, d) => uptoBulk d + 1
 end
def uptoSmall : (H : Type) → List (DataW H) → Bool := fun _ ds => decide (uptoBulkAll ds ≤ 1048576)
def OpenSpec.upto (s : _root_.Go.ChangeSpec) : _root_.Go.OpenSpec := { _root_.Go.OpenSpec.ofChange s with cond := some uptoSmall }

/-- 'laws.FnExactIsClosed', WHERE WHAT IT READS IS OF BULK AT MOST 1048576: true; the input reads as it did. -/
def fnExactIsClosedUptoRow : OpenClaim := { program := "ytbedgcngoddkdaa", sum := "811e291cad1fc7460d676385a27fca3b5e0ef9cf1797fe06aeee13a35e983f90", func := "loop.example/g01243/laws.FnExactIsClosed", spec := "fnExactIsClosed", unfollowed := true, recurses := true, apart := false, narrowed := true }
def FnExactIsClosedUptoSaid : Prop := fnExactIsClosedUptoRow.holds Try.pinned (OpenSpec.upto fnExactIsClosedSpec)

/-- 'laws.FnExactIsPartTrie', WHERE WHAT IT READS IS OF BULK AT MOST 1048576: true; the input reads as it did. -/
def fnExactIsPartTrieUptoRow : OpenClaim := { program := "ytbedgcngoddkdaa", sum := "811e291cad1fc7460d676385a27fca3b5e0ef9cf1797fe06aeee13a35e983f90", func := "loop.example/g01243/laws.FnExactIsPartTrie", spec := "fnExactIsPartTrie", unfollowed := true, recurses := true, apart := false, narrowed := true }
def FnExactIsPartTrieUptoSaid : Prop := fnExactIsPartTrieUptoRow.holds Try.pinned (OpenSpec.upto fnExactIsPartTrieSpec)

/-- 'laws.FnExactSharedPrefix', WHERE WHAT IT READS IS OF BULK AT MOST 1048576: true; the input reads as it did. -/
def fnExactSharedPrefixUptoRow : OpenClaim := { program := "ytbedgcngoddkdaa", sum := "811e291cad1fc7460d676385a27fca3b5e0ef9cf1797fe06aeee13a35e983f90", func := "loop.example/g01243/laws.FnExactSharedPrefix", spec := "fnExactSharedPrefix", unfollowed := true, recurses := true, apart := false, narrowed := true }
def FnExactSharedPrefixUptoSaid : Prop := fnExactSharedPrefixUptoRow.holds Try.pinned (OpenSpec.upto fnExactSharedPrefixSpec)

/-- 'laws.FnExactIsFree', WHERE WHAT IT READS IS OF BULK AT MOST 1048576: true; the input reads as it did. -/
def fnExactIsFreeUptoRow : OpenClaim := { program := "ytbedgcngoddkdaa", sum := "811e291cad1fc7460d676385a27fca3b5e0ef9cf1797fe06aeee13a35e983f90", func := "loop.example/g01243/laws.FnExactIsFree", spec := "fnExactIsFree", unfollowed := true, recurses := true, apart := false, narrowed := true }
def FnExactIsFreeUptoSaid : Prop := fnExactIsFreeUptoRow.holds Try.pinned (OpenSpec.upto fnExactIsFreeSpec)

/-- 'laws.FnExactDifferTries', WHERE WHAT IT READS IS OF BULK AT MOST 1048576: true; the input reads as it did. -/
def fnExactDifferTriesUptoRow : OpenClaim := { program := "ytbedgcngoddkdaa", sum := "811e291cad1fc7460d676385a27fca3b5e0ef9cf1797fe06aeee13a35e983f90", func := "loop.example/g01243/laws.FnExactDifferTries", spec := "fnExactDifferTries", unfollowed := true, recurses := true, apart := false, narrowed := true }
def FnExactDifferTriesUptoSaid : Prop := fnExactDifferTriesUptoRow.holds Try.pinned (OpenSpec.upto fnExactDifferTriesSpec)

/-- 'laws.FnExactCountBranches', WHERE WHAT IT READS IS OF BULK AT MOST 1048576: true; the input reads as it did. -/
def fnExactCountBranchesUptoRow : OpenClaim := { program := "ytbedgcngoddkdaa", sum := "811e291cad1fc7460d676385a27fca3b5e0ef9cf1797fe06aeee13a35e983f90", func := "loop.example/g01243/laws.FnExactCountBranches", spec := "fnExactCountBranches", unfollowed := true, recurses := true, apart := false, narrowed := true }
def FnExactCountBranchesUptoSaid : Prop := fnExactCountBranchesUptoRow.holds Try.pinned (OpenSpec.upto fnExactCountBranchesSpec)

/-- 'laws.FnExactStayingNodes', WHERE WHAT IT READS IS OF BULK AT MOST 1048576: true; the input reads as it did. -/
def fnExactStayingNodesUptoRow : OpenClaim := { program := "ytbedgcngoddkdaa", sum := "811e291cad1fc7460d676385a27fca3b5e0ef9cf1797fe06aeee13a35e983f90", func := "loop.example/g01243/laws.FnExactStayingNodes", spec := "fnExactStayingNodes", unfollowed := true, recurses := true, apart := false, narrowed := true }
def FnExactStayingNodesUptoSaid : Prop := fnExactStayingNodesUptoRow.holds Try.pinned (OpenSpec.upto fnExactStayingNodesSpec)

/-- 'laws.FnExactMeetTries', WHERE WHAT IT READS IS OF BULK AT MOST 1048576: true; the input reads as it did. -/
def fnExactMeetTriesUptoRow : OpenClaim := { program := "ytbedgcngoddkdaa", sum := "811e291cad1fc7460d676385a27fca3b5e0ef9cf1797fe06aeee13a35e983f90", func := "loop.example/g01243/laws.FnExactMeetTries", spec := "fnExactMeetTries", unfollowed := true, recurses := true, apart := false, narrowed := true }
def FnExactMeetTriesUptoSaid : Prop := fnExactMeetTriesUptoRow.holds Try.pinned (OpenSpec.upto fnExactMeetTriesSpec)

/-- 'laws.FnExactWithoutTrie', WHERE WHAT IT READS IS OF BULK AT MOST 1048576: true; the input reads as it did. -/
def fnExactWithoutTrieUptoRow : OpenClaim := { program := "ytbedgcngoddkdaa", sum := "811e291cad1fc7460d676385a27fca3b5e0ef9cf1797fe06aeee13a35e983f90", func := "loop.example/g01243/laws.FnExactWithoutTrie", spec := "fnExactWithoutTrie", unfollowed := true, recurses := true, apart := false, narrowed := true }
def FnExactWithoutTrieUptoSaid : Prop := fnExactWithoutTrieUptoRow.holds Try.pinned (OpenSpec.upto fnExactWithoutTrieSpec)

/-- 'laws.FnExactFirstWords', WHERE WHAT IT READS IS OF BULK AT MOST 1048576: true; the input reads as it did. -/
def fnExactFirstWordsUptoRow : OpenClaim := { program := "ytbedgcngoddkdaa", sum := "811e291cad1fc7460d676385a27fca3b5e0ef9cf1797fe06aeee13a35e983f90", func := "loop.example/g01243/laws.FnExactFirstWords", spec := "fnExactFirstWords", unfollowed := true, recurses := true, apart := false, narrowed := true }
def FnExactFirstWordsUptoSaid : Prop := fnExactFirstWordsUptoRow.holds Try.pinned (OpenSpec.upto fnExactFirstWordsSpec)

/-- 'laws.FnExactLastWords', WHERE WHAT IT READS IS OF BULK AT MOST 1048576: true; the input reads as it did. -/
def fnExactLastWordsUptoRow : OpenClaim := { program := "ytbedgcngoddkdaa", sum := "811e291cad1fc7460d676385a27fca3b5e0ef9cf1797fe06aeee13a35e983f90", func := "loop.example/g01243/laws.FnExactLastWords", spec := "fnExactLastWords", unfollowed := true, recurses := true, apart := false, narrowed := true }
def FnExactLastWordsUptoSaid : Prop := fnExactLastWordsUptoRow.holds Try.pinned (OpenSpec.upto fnExactLastWordsSpec)

/-- 'laws.FnExactPressTrie', WHERE WHAT IT READS IS OF BULK AT MOST 1048576: true; the input reads as it did. -/
def fnExactPressTrieUptoRow : OpenClaim := { program := "ytbedgcngoddkdaa", sum := "811e291cad1fc7460d676385a27fca3b5e0ef9cf1797fe06aeee13a35e983f90", func := "loop.example/g01243/laws.FnExactPressTrie", spec := "fnExactPressTrie", unfollowed := true, recurses := true, apart := false, narrowed := true }
def FnExactPressTrieUptoSaid : Prop := fnExactPressTrieUptoRow.holds Try.pinned (OpenSpec.upto fnExactPressTrieSpec)

end Rows
end Go.Proofs.Ytbedgcngoddkdaa
