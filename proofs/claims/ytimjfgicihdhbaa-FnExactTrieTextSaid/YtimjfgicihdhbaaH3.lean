/- Texts of one proof put together: walks of the program's functions, and plain laws on what they compute. -/
import Derived.Test.YtimjfgicihdhbaaH0
import Derived.Test.YtimjfgicihdhbaaH1
import Derived.Test.YtimjfgicihdhbaaH2
import Derived.Test.YtimjfgicihdhbaaProg
import Derived.Below
import Derived.Deep.Draws
import Derived.Deep.AppendLies
import Derived.Maps.AppendAt
import Derived.OwnWalk
import Derived.Laws.BytesArg
import Derived.Laws.MakeOwn
import Derived.Laws.OwnMore
import Derived.Deep.OwnRows
import Derived.Tactics
import Derived.Lib.ConvBytes
import Derived.Laws.Slices
import Derived.WalkKit
import Derived.KernelRfl
import Derived.RowKit3
import Derived.Deep.LoopGhost
import Derived.Deep.QuietTactic
import Derived.BigQuiet
import Derived.WideLaws
import Derived.Deep.DeepCutAuto
import Derived.Deep.CutBlock
import Derived.Deep.RegionHeld3
import Derived.Laws.Rows
import Derived.Lib.AppendStr
import Derived.ArgAppend
import Derived.Laws.IdiomCopy
import Derived.OrdersHeld
import Derived.Laws.BitsLemmas
import Derived.RowKit
import Derived.Lib.SlicesCompact
import Derived.Maps.Own
import Derived.StringKeys
import Derived.Maps.OwnOps
import Derived.Maps.OwnSet
import Derived.Maps.Views
import Derived.Laws.AppendOwn
import Derived.Deep.DrawnRows
import Derived.Shelf.Sort.Plain
import Derived.Shelf.Slices.CompactS
import Derived.Shelf.Slices.In.SortNone
import Derived.RangeFuncBox
import Derived.RangeFuncLeaves
import Derived.Shelf.Abstract
import Derived.OwnWalkIn
import Derived.TacticsInMore
import Derived.LoopNIn
import Derived.LoopIn
import Derived.Lib.OwnBridge
import Derived.Sort.OwnSorted
import Derived.Sort.Grow
import Derived.Shelf.Strings.OnBuilder
import Derived.Shelf.SlicesE.DeleteFunc
import Derived.Ground.NamesProg
import Derived.Ground.SlgfProg
import Derived.Sort.Walk0
import Derived.Lib.Strings
set_option linter.unusedVariables false
set_option linter.unusedSimpArgs false
namespace Go.Proofs.Ytimjfgicihdhbaa.Q
open Go.RowKit Go.Proofs.YtimjfgicihdhbaaW.PrintWords Go.Proofs.YtimjfgicihdhbaaW.PrintLast
theorem tail_ok (l : List LN) (h : l.length ≤ 1048576) : Ev (fun k => (laws_toTrie.f k l).bind fun t => ((laws_eqTrie.f k (cv l) t).bind fun u => (if u = true then (some true) else (some false)))) true :=
  Ev.bind (toTrie_ev l h) (Ev.bind (eqTrie_ev _ _ (by rw [cv_length]; exact h)) (Ev.pos (by simp) (Ev.pure _)))
theorem trie_cases (l : List IN) : isTrieW l = false ∨ ∃ ws, VW ws ∧ l = trieW ws ∧ isTrieW l = true := by
  cases h : isTrieW l with
  | false => exact .inl rfl
  | true => obtain ⟨ws, hv, e⟩ := (isTrieW_iff l).1 h; exact .inr ⟨ws, hv, e, rfl⟩
theorem specT (l : List IN) {b : Bool} (h : isTrieW l = b) : Ev (fun k => spec_l2Trie.f k l) b := by rw [← h, ← trie_same]; exact trieS_ev l
theorem implT (l : List IN) {b : Bool} (h : isTrieW l = b) : Ev (fun k => impl_isTrie.f k l) b := h ▸ isTrie_ev l
end Go.Proofs.Ytimjfgicihdhbaa.Q
