/-
  No cell of these rows narrows 'for every input' (looked for: loops, veiled, ifaces, maps, wideKeys, modest, calm, conditions, laid).
  DERIVED. THE GIVEN ROWS OF THIS SEAT. 12 by the template 'for every input the law returns true; each argument reads behind the call as it read before'; 0 by the template 'total and deterministic' (their statements: YtimjfgicihdhbaaTotals.lean).
  GIVEN WITH THE SEED: the statements are not yours to turn. If you find one false, say at which input.
  Laid BY PROGRAM, IN A SANDBOX (cutbox-rows.mjs): the forced cells as the released guide's own fill.sh prints them over the translation 7ee8828ddab52367… (all of the seat's roots in one cut). By AI agents, Wed Nov 11 2026. No macro, syntax, notation, axiom, sorry.
-/
import Derived.Test.YtimjfgicihdhbaaChecked
import GoSem.Claim
import GoSem.ClaimJoined
import GoSem.ClaimMapViews
import Derived.JoinedTies
import Derived.KernelRfl
namespace Go.Proofs.Ytimjfgicihdhbaa
/- THE CELL 'sum', in the pinned program and in every row, IS THE sha256 OF THE DUMP (.gsa) THAT YtimjfgicihdhbaaProg.lean LOADS. Nothing in Lean hashes anything: it is a label: what it is worth is what the hold of that sum in a sandbox is worth. -/
noncomputable def Try.pinned : Pinned := { name := "ytimjfgicihdhbaa", sum := "7ee8828ddab52367a57fc2b35780047c61514db004a44ec3ba184e69e3922513", checked := Try.checked }
namespace Rows
def none {H : Type} : Left H := { results := [], args := [] }

/-- 'laws.FnExactIsTrie': WHATEVER THE INPUT: true; the input reads as it did. -/
def fnExactIsTrieSpec : ChangeSpec := { name := "fnExactIsTrie", fn := fun _ => fun
  | [d] => { results := [.lit (.bool true)], args := [d] }
  | _ => none }
def fnExactIsTrieRow : OpenClaim := { program := "ytimjfgicihdhbaa", sum := "7ee8828ddab52367a57fc2b35780047c61514db004a44ec3ba184e69e3922513", func := "loop.example/g01243/laws.FnExactIsTrie", spec := "fnExactIsTrie", unfollowed := true, recurses := true, apart := false }
def FnExactIsTrieSaid : Prop := fnExactIsTrieRow.holds Try.pinned (OpenSpec.ofChange fnExactIsTrieSpec)

/-- ITS FALSE NEIGHBOUR: 'it returns false'. Refute it at one input. -/
def fnExactIsTrieWrong : ChangeSpec := { name := "fnExactIsTrie", fn := fun _ => fun
  | [d] => { results := [.lit (.bool false)], args := [d] }
  | _ => none }
def FnExactIsTrieWrongFalsely : Prop := fnExactIsTrieRow.holds Try.pinned (OpenSpec.ofChange fnExactIsTrieWrong)

/-- 'laws.FnExactCountWords': WHATEVER THE INPUT: true; the input reads as it did. -/
def fnExactCountWordsSpec : ChangeSpec := { name := "fnExactCountWords", fn := fun _ => fun
  | [d] => { results := [.lit (.bool true)], args := [d] }
  | _ => none }
def fnExactCountWordsRow : OpenClaim := { program := "ytimjfgicihdhbaa", sum := "7ee8828ddab52367a57fc2b35780047c61514db004a44ec3ba184e69e3922513", func := "loop.example/g01243/laws.FnExactCountWords", spec := "fnExactCountWords", unfollowed := true, recurses := true, apart := false }
def FnExactCountWordsSaid : Prop := fnExactCountWordsRow.holds Try.pinned (OpenSpec.ofChange fnExactCountWordsSpec)

/-- ITS FALSE NEIGHBOUR: 'it returns false'. Refute it at one input. -/
def fnExactCountWordsWrong : ChangeSpec := { name := "fnExactCountWords", fn := fun _ => fun
  | [d] => { results := [.lit (.bool false)], args := [d] }
  | _ => none }
def FnExactCountWordsWrongFalsely : Prop := fnExactCountWordsRow.holds Try.pinned (OpenSpec.ofChange fnExactCountWordsWrong)

/-- 'laws.FnExactWordAt': WHATEVER THE INPUT: true; the input reads as it did. -/
def fnExactWordAtSpec : ChangeSpec := { name := "fnExactWordAt", fn := fun _ => fun
  | [d1, d2] => { results := [.lit (.bool true)], args := [d1, d2] }
  | _ => none }
def fnExactWordAtRow : OpenClaim := { program := "ytimjfgicihdhbaa", sum := "7ee8828ddab52367a57fc2b35780047c61514db004a44ec3ba184e69e3922513", func := "loop.example/g01243/laws.FnExactWordAt", spec := "fnExactWordAt", unfollowed := true, recurses := true, apart := false }
def FnExactWordAtSaid : Prop := fnExactWordAtRow.holds Try.pinned (OpenSpec.ofChange fnExactWordAtSpec)

/-- ITS FALSE NEIGHBOUR: 'it returns false'. Refute it at one input. -/
def fnExactWordAtWrong : ChangeSpec := { name := "fnExactWordAt", fn := fun _ => fun
  | [d1, d2] => { results := [.lit (.bool false)], args := [d1, d2] }
  | _ => none }
def FnExactWordAtWrongFalsely : Prop := fnExactWordAtRow.holds Try.pinned (OpenSpec.ofChange fnExactWordAtWrong)

/-- 'laws.FnExactPrefixOf': WHATEVER THE INPUT: true; the input reads as it did. -/
def fnExactPrefixOfSpec : ChangeSpec := { name := "fnExactPrefixOf", fn := fun _ => fun
  | [d1, d2] => { results := [.lit (.bool true)], args := [d1, d2] }
  | _ => none }
def fnExactPrefixOfRow : OpenClaim := { program := "ytimjfgicihdhbaa", sum := "7ee8828ddab52367a57fc2b35780047c61514db004a44ec3ba184e69e3922513", func := "loop.example/g01243/laws.FnExactPrefixOf", spec := "fnExactPrefixOf", unfollowed := true, recurses := true, apart := false }
def FnExactPrefixOfSaid : Prop := fnExactPrefixOfRow.holds Try.pinned (OpenSpec.ofChange fnExactPrefixOfSpec)

/-- ITS FALSE NEIGHBOUR: 'it returns false'. Refute it at one input. -/
def fnExactPrefixOfWrong : ChangeSpec := { name := "fnExactPrefixOf", fn := fun _ => fun
  | [d1, d2] => { results := [.lit (.bool false)], args := [d1, d2] }
  | _ => none }
def FnExactPrefixOfWrongFalsely : Prop := fnExactPrefixOfRow.holds Try.pinned (OpenSpec.ofChange fnExactPrefixOfWrong)

/-- 'laws.FnExactParseTrie': WHATEVER THE INPUT: true; the input reads as it did. -/
def fnExactParseTrieSpec : ChangeSpec := { name := "fnExactParseTrie", fn := fun _ => fun
  | [d] => { results := [.lit (.bool true)], args := [d] }
  | _ => none }
def fnExactParseTrieRow : OpenClaim := { program := "ytimjfgicihdhbaa", sum := "7ee8828ddab52367a57fc2b35780047c61514db004a44ec3ba184e69e3922513", func := "loop.example/g01243/laws.FnExactParseTrie", spec := "fnExactParseTrie", unfollowed := true, recurses := true, apart := false }
def FnExactParseTrieSaid : Prop := fnExactParseTrieRow.holds Try.pinned (OpenSpec.ofChange fnExactParseTrieSpec)

/-- ITS FALSE NEIGHBOUR: 'it returns false'. Refute it at one input. -/
def fnExactParseTrieWrong : ChangeSpec := { name := "fnExactParseTrie", fn := fun _ => fun
  | [d] => { results := [.lit (.bool false)], args := [d] }
  | _ => none }
def FnExactParseTrieWrongFalsely : Prop := fnExactParseTrieRow.holds Try.pinned (OpenSpec.ofChange fnExactParseTrieWrong)

/-- 'laws.FnExactDepthOf': WHATEVER THE INPUT: true; the input reads as it did. -/
def fnExactDepthOfSpec : ChangeSpec := { name := "fnExactDepthOf", fn := fun _ => fun
  | [d] => { results := [.lit (.bool true)], args := [d] }
  | _ => none }
def fnExactDepthOfRow : OpenClaim := { program := "ytimjfgicihdhbaa", sum := "7ee8828ddab52367a57fc2b35780047c61514db004a44ec3ba184e69e3922513", func := "loop.example/g01243/laws.FnExactDepthOf", spec := "fnExactDepthOf", unfollowed := true, recurses := true, apart := false }
def FnExactDepthOfSaid : Prop := fnExactDepthOfRow.holds Try.pinned (OpenSpec.ofChange fnExactDepthOfSpec)

/-- ITS FALSE NEIGHBOUR: 'it returns false'. Refute it at one input. -/
def fnExactDepthOfWrong : ChangeSpec := { name := "fnExactDepthOf", fn := fun _ => fun
  | [d] => { results := [.lit (.bool false)], args := [d] }
  | _ => none }
def FnExactDepthOfWrongFalsely : Prop := fnExactDepthOfRow.holds Try.pinned (OpenSpec.ofChange fnExactDepthOfWrong)

/-- 'laws.FnExactNodeOf': WHATEVER THE INPUT: true; the input reads as it did. -/
def fnExactNodeOfSpec : ChangeSpec := { name := "fnExactNodeOf", fn := fun _ => fun
  | [d1, d2] => { results := [.lit (.bool true)], args := [d1, d2] }
  | _ => none }
def fnExactNodeOfRow : OpenClaim := { program := "ytimjfgicihdhbaa", sum := "7ee8828ddab52367a57fc2b35780047c61514db004a44ec3ba184e69e3922513", func := "loop.example/g01243/laws.FnExactNodeOf", spec := "fnExactNodeOf", unfollowed := true, recurses := true, apart := false }
def FnExactNodeOfSaid : Prop := fnExactNodeOfRow.holds Try.pinned (OpenSpec.ofChange fnExactNodeOfSpec)

/-- ITS FALSE NEIGHBOUR: 'it returns false'. Refute it at one input. -/
def fnExactNodeOfWrong : ChangeSpec := { name := "fnExactNodeOf", fn := fun _ => fun
  | [d1, d2] => { results := [.lit (.bool false)], args := [d1, d2] }
  | _ => none }
def FnExactNodeOfWrongFalsely : Prop := fnExactNodeOfRow.holds Try.pinned (OpenSpec.ofChange fnExactNodeOfWrong)

/-- 'laws.FnExactCountUnder': WHATEVER THE INPUT: true; the input reads as it did. -/
def fnExactCountUnderSpec : ChangeSpec := { name := "fnExactCountUnder", fn := fun _ => fun
  | [d1, d2] => { results := [.lit (.bool true)], args := [d1, d2] }
  | _ => none }
def fnExactCountUnderRow : OpenClaim := { program := "ytimjfgicihdhbaa", sum := "7ee8828ddab52367a57fc2b35780047c61514db004a44ec3ba184e69e3922513", func := "loop.example/g01243/laws.FnExactCountUnder", spec := "fnExactCountUnder", unfollowed := true, recurses := true, apart := false }
def FnExactCountUnderSaid : Prop := fnExactCountUnderRow.holds Try.pinned (OpenSpec.ofChange fnExactCountUnderSpec)

/-- ITS FALSE NEIGHBOUR: 'it returns false'. Refute it at one input. -/
def fnExactCountUnderWrong : ChangeSpec := { name := "fnExactCountUnder", fn := fun _ => fun
  | [d1, d2] => { results := [.lit (.bool false)], args := [d1, d2] }
  | _ => none }
def FnExactCountUnderWrongFalsely : Prop := fnExactCountUnderRow.holds Try.pinned (OpenSpec.ofChange fnExactCountUnderWrong)

/-- 'laws.FnExactTrieText': WHATEVER THE INPUT: true; the input reads as it did. -/
def fnExactTrieTextSpec : ChangeSpec := { name := "fnExactTrieText", fn := fun _ => fun
  | [d] => { results := [.lit (.bool true)], args := [d] }
  | _ => none }
def fnExactTrieTextRow : OpenClaim := { program := "ytimjfgicihdhbaa", sum := "7ee8828ddab52367a57fc2b35780047c61514db004a44ec3ba184e69e3922513", func := "loop.example/g01243/laws.FnExactTrieText", spec := "fnExactTrieText", unfollowed := true, recurses := true, apart := false }
def FnExactTrieTextSaid : Prop := fnExactTrieTextRow.holds Try.pinned (OpenSpec.ofChange fnExactTrieTextSpec)

/-- ITS FALSE NEIGHBOUR: 'it returns false'. Refute it at one input. -/
def fnExactTrieTextWrong : ChangeSpec := { name := "fnExactTrieText", fn := fun _ => fun
  | [d] => { results := [.lit (.bool false)], args := [d] }
  | _ => none }
def FnExactTrieTextWrongFalsely : Prop := fnExactTrieTextRow.holds Try.pinned (OpenSpec.ofChange fnExactTrieTextWrong)

/-- 'laws.FnExactWordsOf': WHATEVER THE INPUT: true; the input reads as it did. -/
def fnExactWordsOfSpec : ChangeSpec := { name := "fnExactWordsOf", fn := fun _ => fun
  | [d] => { results := [.lit (.bool true)], args := [d] }
  | _ => none }
def fnExactWordsOfRow : OpenClaim := { program := "ytimjfgicihdhbaa", sum := "7ee8828ddab52367a57fc2b35780047c61514db004a44ec3ba184e69e3922513", func := "loop.example/g01243/laws.FnExactWordsOf", spec := "fnExactWordsOf", unfollowed := true, recurses := true, apart := false }
def FnExactWordsOfSaid : Prop := fnExactWordsOfRow.holds Try.pinned (OpenSpec.ofChange fnExactWordsOfSpec)

/-- ITS FALSE NEIGHBOUR: 'it returns false'. Refute it at one input. -/
def fnExactWordsOfWrong : ChangeSpec := { name := "fnExactWordsOf", fn := fun _ => fun
  | [d] => { results := [.lit (.bool false)], args := [d] }
  | _ => none }
def FnExactWordsOfWrongFalsely : Prop := fnExactWordsOfRow.holds Try.pinned (OpenSpec.ofChange fnExactWordsOfWrong)

/-- 'laws.FnExactKidsOf': WHATEVER THE INPUT: true; the input reads as it did. -/
def fnExactKidsOfSpec : ChangeSpec := { name := "fnExactKidsOf", fn := fun _ => fun
  | [d1, d2] => { results := [.lit (.bool true)], args := [d1, d2] }
  | _ => none }
def fnExactKidsOfRow : OpenClaim := { program := "ytimjfgicihdhbaa", sum := "7ee8828ddab52367a57fc2b35780047c61514db004a44ec3ba184e69e3922513", func := "loop.example/g01243/laws.FnExactKidsOf", spec := "fnExactKidsOf", unfollowed := true, recurses := true, apart := false }
def FnExactKidsOfSaid : Prop := fnExactKidsOfRow.holds Try.pinned (OpenSpec.ofChange fnExactKidsOfSpec)

/-- ITS FALSE NEIGHBOUR: 'it returns false'. Refute it at one input. -/
def fnExactKidsOfWrong : ChangeSpec := { name := "fnExactKidsOf", fn := fun _ => fun
  | [d1, d2] => { results := [.lit (.bool false)], args := [d1, d2] }
  | _ => none }
def FnExactKidsOfWrongFalsely : Prop := fnExactKidsOfRow.holds Try.pinned (OpenSpec.ofChange fnExactKidsOfWrong)

/-- 'laws.FnExactSaveOf': WHATEVER THE INPUT: true; the input reads as it did. -/
def fnExactSaveOfSpec : ChangeSpec := { name := "fnExactSaveOf", fn := fun _ => fun
  | [d] => { results := [.lit (.bool true)], args := [d] }
  | _ => none }
def fnExactSaveOfRow : OpenClaim := { program := "ytimjfgicihdhbaa", sum := "7ee8828ddab52367a57fc2b35780047c61514db004a44ec3ba184e69e3922513", func := "loop.example/g01243/laws.FnExactSaveOf", spec := "fnExactSaveOf", inPlace := ["internal/abi.NoEscape", "internal/bytealg.MakeNoZero"], unfollowed := true, recurses := true, apart := false }
def FnExactSaveOfSaid : Prop := fnExactSaveOfRow.holds Try.pinned (OpenSpec.ofChange fnExactSaveOfSpec)

/-- ITS FALSE NEIGHBOUR: 'it returns false'. Refute it at one input. -/
def fnExactSaveOfWrong : ChangeSpec := { name := "fnExactSaveOf", fn := fun _ => fun
  | [d] => { results := [.lit (.bool false)], args := [d] }
  | _ => none }
def FnExactSaveOfWrongFalsely : Prop := fnExactSaveOfRow.holds Try.pinned (OpenSpec.ofChange fnExactSaveOfWrong)

/- THE SECOND FORM. 'bulk': how many values and letters a reading holds, each counted each time it is reached (what is shared counts as often as it is met; a slice's spare places count too). A statement '..UptoSaid' is the law's where the arguments, and the package variables that the reading takes, are together of bulk at most 1048576: NARROWER than '..Said'. Prove '..Said' where nothing that the law and all that it calls make is longer than what came in: it says more and counts as full. Else prove '..UptoSaid'. A law counts once. -/
mutual
def uptoBulk {H : Type} : DataW H → Nat
  | .lit (.string bytes) => bytes.length + 1
  | .lit _ => 1
  | .nil => 1
  | .ptr d => uptoBulk d + 1
  | .slice elems spare => uptoBulkAll elems + uptoBulkAll spare + 1
  | .agg parts => uptoBulkAll parts + 1
  | .iface _ d => uptoBulk d + 1
  | .map entries => uptoBulkEntries entries + 1
  | .held _ => 1
def uptoBulkAll {H : Type} : List (DataW H) → Nat
  | [] => 0
  | d :: r => uptoBulk d + uptoBulkAll r
def uptoBulkEntries {H : Type} : List (Lit × DataW H) → Nat
  | [] => 0
  | x :: r => uptoBulkEntry x + uptoBulkEntries r
def uptoBulkEntry {H : Type} : Lit × DataW H → Nat
  | (.string bytes, d) => bytes.length + uptoBulk d + 1
  | (_, d) => uptoBulk d + 1
 end
def uptoSmall : (H : Type) → List (DataW H) → Bool := fun _ ds => decide (uptoBulkAll ds ≤ 1048576)
def OpenSpec.upto (s : _root_.Go.ChangeSpec) : _root_.Go.OpenSpec := { _root_.Go.OpenSpec.ofChange s with cond := some uptoSmall }

/-- 'laws.FnExactIsTrie', WHERE WHAT IT READS IS OF BULK AT MOST 1048576: true; the input reads as it did. -/
def fnExactIsTrieUptoRow : OpenClaim := { program := "ytimjfgicihdhbaa", sum := "7ee8828ddab52367a57fc2b35780047c61514db004a44ec3ba184e69e3922513", func := "loop.example/g01243/laws.FnExactIsTrie", spec := "fnExactIsTrie", unfollowed := true, recurses := true, apart := false, narrowed := true }
def FnExactIsTrieUptoSaid : Prop := fnExactIsTrieUptoRow.holds Try.pinned (OpenSpec.upto fnExactIsTrieSpec)

/-- 'laws.FnExactCountWords', WHERE WHAT IT READS IS OF BULK AT MOST 1048576: true; the input reads as it did. -/
def fnExactCountWordsUptoRow : OpenClaim := { program := "ytimjfgicihdhbaa", sum := "7ee8828ddab52367a57fc2b35780047c61514db004a44ec3ba184e69e3922513", func := "loop.example/g01243/laws.FnExactCountWords", spec := "fnExactCountWords", unfollowed := true, recurses := true, apart := false, narrowed := true }
def FnExactCountWordsUptoSaid : Prop := fnExactCountWordsUptoRow.holds Try.pinned (OpenSpec.upto fnExactCountWordsSpec)

/-- 'laws.FnExactWordAt', WHERE WHAT IT READS IS OF BULK AT MOST 1048576: true; the input reads as it did. -/
def fnExactWordAtUptoRow : OpenClaim := { program := "ytimjfgicihdhbaa", sum := "7ee8828ddab52367a57fc2b35780047c61514db004a44ec3ba184e69e3922513", func := "loop.example/g01243/laws.FnExactWordAt", spec := "fnExactWordAt", unfollowed := true, recurses := true, apart := false, narrowed := true }
def FnExactWordAtUptoSaid : Prop := fnExactWordAtUptoRow.holds Try.pinned (OpenSpec.upto fnExactWordAtSpec)

/-- 'laws.FnExactPrefixOf', WHERE WHAT IT READS IS OF BULK AT MOST 1048576: true; the input reads as it did. -/
def fnExactPrefixOfUptoRow : OpenClaim := { program := "ytimjfgicihdhbaa", sum := "7ee8828ddab52367a57fc2b35780047c61514db004a44ec3ba184e69e3922513", func := "loop.example/g01243/laws.FnExactPrefixOf", spec := "fnExactPrefixOf", unfollowed := true, recurses := true, apart := false, narrowed := true }
def FnExactPrefixOfUptoSaid : Prop := fnExactPrefixOfUptoRow.holds Try.pinned (OpenSpec.upto fnExactPrefixOfSpec)

/-- 'laws.FnExactParseTrie', WHERE WHAT IT READS IS OF BULK AT MOST 1048576: true; the input reads as it did. -/
def fnExactParseTrieUptoRow : OpenClaim := { program := "ytimjfgicihdhbaa", sum := "7ee8828ddab52367a57fc2b35780047c61514db004a44ec3ba184e69e3922513", func := "loop.example/g01243/laws.FnExactParseTrie", spec := "fnExactParseTrie", unfollowed := true, recurses := true, apart := false, narrowed := true }
def FnExactParseTrieUptoSaid : Prop := fnExactParseTrieUptoRow.holds Try.pinned (OpenSpec.upto fnExactParseTrieSpec)

/-- 'laws.FnExactDepthOf', WHERE WHAT IT READS IS OF BULK AT MOST 1048576: true; the input reads as it did. -/
def fnExactDepthOfUptoRow : OpenClaim := { program := "ytimjfgicihdhbaa", sum := "7ee8828ddab52367a57fc2b35780047c61514db004a44ec3ba184e69e3922513", func := "loop.example/g01243/laws.FnExactDepthOf", spec := "fnExactDepthOf", unfollowed := true, recurses := true, apart := false, narrowed := true }
def FnExactDepthOfUptoSaid : Prop := fnExactDepthOfUptoRow.holds Try.pinned (OpenSpec.upto fnExactDepthOfSpec)

/-- 'laws.FnExactNodeOf', WHERE WHAT IT READS IS OF BULK AT MOST 1048576: true; the input reads as it did. -/
def fnExactNodeOfUptoRow : OpenClaim := { program := "ytimjfgicihdhbaa", sum := "7ee8828ddab52367a57fc2b35780047c61514db004a44ec3ba184e69e3922513", func := "loop.example/g01243/laws.FnExactNodeOf", spec := "fnExactNodeOf", unfollowed := true, recurses := true, apart := false, narrowed := true }
def FnExactNodeOfUptoSaid : Prop := fnExactNodeOfUptoRow.holds Try.pinned (OpenSpec.upto fnExactNodeOfSpec)

/-- 'laws.FnExactCountUnder', WHERE WHAT IT READS IS OF BULK AT MOST 1048576: true; the input reads as it did. -/
def fnExactCountUnderUptoRow : OpenClaim := { program := "ytimjfgicihdhbaa", sum := "7ee8828ddab52367a57fc2b35780047c61514db004a44ec3ba184e69e3922513", func := "loop.example/g01243/laws.FnExactCountUnder", spec := "fnExactCountUnder", unfollowed := true, recurses := true, apart := false, narrowed := true }
def FnExactCountUnderUptoSaid : Prop := fnExactCountUnderUptoRow.holds Try.pinned (OpenSpec.upto fnExactCountUnderSpec)

/-- 'laws.FnExactTrieText', WHERE WHAT IT READS IS OF BULK AT MOST 1048576: true; the input reads as it did. -/
def fnExactTrieTextUptoRow : OpenClaim := { program := "ytimjfgicihdhbaa", sum := "7ee8828ddab52367a57fc2b35780047c61514db004a44ec3ba184e69e3922513", func := "loop.example/g01243/laws.FnExactTrieText", spec := "fnExactTrieText", unfollowed := true, recurses := true, apart := false, narrowed := true }
def FnExactTrieTextUptoSaid : Prop := fnExactTrieTextUptoRow.holds Try.pinned (OpenSpec.upto fnExactTrieTextSpec)

/-- 'laws.FnExactWordsOf', WHERE WHAT IT READS IS OF BULK AT MOST 1048576: true; the input reads as it did. -/
def fnExactWordsOfUptoRow : OpenClaim := { program := "ytimjfgicihdhbaa", sum := "7ee8828ddab52367a57fc2b35780047c61514db004a44ec3ba184e69e3922513", func := "loop.example/g01243/laws.FnExactWordsOf", spec := "fnExactWordsOf", unfollowed := true, recurses := true, apart := false, narrowed := true }
def FnExactWordsOfUptoSaid : Prop := fnExactWordsOfUptoRow.holds Try.pinned (OpenSpec.upto fnExactWordsOfSpec)

/-- 'laws.FnExactKidsOf', WHERE WHAT IT READS IS OF BULK AT MOST 1048576: true; the input reads as it did. -/
def fnExactKidsOfUptoRow : OpenClaim := { program := "ytimjfgicihdhbaa", sum := "7ee8828ddab52367a57fc2b35780047c61514db004a44ec3ba184e69e3922513", func := "loop.example/g01243/laws.FnExactKidsOf", spec := "fnExactKidsOf", unfollowed := true, recurses := true, apart := false, narrowed := true }
def FnExactKidsOfUptoSaid : Prop := fnExactKidsOfUptoRow.holds Try.pinned (OpenSpec.upto fnExactKidsOfSpec)

/-- 'laws.FnExactSaveOf', WHERE WHAT IT READS IS OF BULK AT MOST 1048576: true; the input reads as it did. -/
def fnExactSaveOfUptoRow : OpenClaim := { program := "ytimjfgicihdhbaa", sum := "7ee8828ddab52367a57fc2b35780047c61514db004a44ec3ba184e69e3922513", func := "loop.example/g01243/laws.FnExactSaveOf", spec := "fnExactSaveOf", inPlace := ["internal/abi.NoEscape", "internal/bytealg.MakeNoZero"], unfollowed := true, recurses := true, apart := false, narrowed := true }
def FnExactSaveOfUptoSaid : Prop := fnExactSaveOfUptoRow.holds Try.pinned (OpenSpec.upto fnExactSaveOfSpec)

end Rows
end Go.Proofs.Ytimjfgicihdhbaa
