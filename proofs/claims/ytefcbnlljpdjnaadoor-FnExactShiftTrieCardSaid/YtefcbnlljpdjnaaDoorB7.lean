/- Texts of one proof put together: walks of the program's functions, and plain laws on what they compute. -/
import Derived.Test.YtefcbnlljpdjnaaDoorB0
import Derived.Test.YtefcbnlljpdjnaaDoorB1
import Derived.Test.YtefcbnlljpdjnaaDoorB2
import Derived.Test.YtefcbnlljpdjnaaDoorB3
import Derived.Test.YtefcbnlljpdjnaaDoorProg
import Derived.Below
import Derived.Deep.Draws
import Derived.Deep.AppendLies
import Derived.Maps.AppendAt
import Derived.OwnWalk
import Derived.Laws.BytesArg
import Derived.Laws.MakeOwn
import Derived.Laws.OwnMore
import Derived.Deep.OwnRows
import Derived.Tactics
import Derived.Lib.ConvBytes
import Derived.Laws.Slices
import Derived.WalkKit
import Derived.KernelRfl
import Derived.RowKit3
import Derived.Deep.LoopGhost
import Derived.Deep.QuietTactic
import Derived.BigQuiet
import Derived.WideLaws
import Derived.Deep.DeepCutAuto
import Derived.Deep.CutBlock
import Derived.Deep.RegionHeld3
import Derived.Laws.Rows
import Derived.Lib.AppendStr
import Derived.ArgAppend
import Derived.Laws.IdiomCopy
import Derived.OrdersHeld
import Derived.Laws.BitsLemmas
import Derived.RowKit
import Derived.Shelf.Strings.SlTrimAscii
import Derived.Ground.NamesProg
import Derived.Ground.SlgfProg
import Derived.Lib.SlicesCompact
import Derived.Maps.Own
import Derived.StringKeys
import Derived.Maps.OwnOps
import Derived.Maps.OwnSet
import Derived.Maps.Views
import Derived.Laws.AppendOwn
import Derived.Deep.DrawnRows
import Derived.Shelf.Sort.Plain
import Derived.Shelf.Slices.CompactS
import Derived.Shelf.Slices.In.SortNone
import Derived.RangeFuncBox
import Derived.RangeFuncLeaves
import Derived.Shelf.Abstract
import Derived.OwnWalkIn
import Derived.TacticsInMore
import Derived.LoopNIn
import Derived.LoopIn
import Derived.Lib.OwnBridge
import Derived.Sort.OwnSorted
import Derived.Sort.Grow
import Derived.Shelf.Strings.OnBuilder
import Derived.Sort.Walk0
import Derived.Lib.Strings
import Derived.Shelf.SlicesE.DeleteFunc
import Derived.Lib.SliceRun
import Derived.Lib.SlKept
set_option linter.unusedVariables false
set_option linter.unusedSimpArgs false
namespace Go.Proofs.YtefcbnlljpdjnaaDoor.Q
open Go.RowKit Go.Sort Go.Shelf Go.Proofs.YtefcbnlljpdjnaaDoorW.PrintWords Go.Proofs.YtefcbnlljpdjnaaDoorW.PrintLast Go.Proofs.YtefcbnlljpdjnaaDoorW.PrintMore
set_option linter.unusedVariables false
def wordsV (l : List IN) : List ByteArray := match prefixesW l with
  | some ps => wordsW l ps
  | none => []
theorem wordsV_trie {ws : List ByteArray} (h : VW ws) : wordsV (trieW ws) = ws := by
  unfold wordsV
  rw [prefixesW_trie h]
  exact wordsW_trie h.ss
theorem trie_split (l : List IN) : isTrieW l = false ∨ ∃ ws, VW ws ∧ l = trieW ws ∧ isTrieW l = true ∧ wordsV l = ws := by
  rcases trie_cases l with h | ⟨ws, hv, rfl, ht⟩
  · exact .inl h
  · exact .inr ⟨ws, hv, rfl, ht, wordsV_trie hv⟩
theorem box_at {w : World} {g t : Nat} {v : Value} (h : w.heap[g]? = some (.cells #[v] t (0, 0))) : w.cell? ⟨g, 0, none⟩ = some v := box_cell h
theorem box_two (w : World) (v1 v2 : Value) (t1 t2 : Nat) : ∀ W, Below (w.heap.size + 1 + 1) ((w.alloc (.cells #[v1] t1)).alloc (.cells #[v2] t2)) W → W.heap[w.heap.size]? = some (.cells #[v1] t1 (0, 0)) ∧ W.heap[w.heap.size + 1]? = some (.cells #[v2] t2 (0, 0)) := fun W h => by
  have h2 := Go.heap_alloc_new (w.alloc (.cells #[v1] t1)) (.cells #[v2] t2)
  rw [World.size_alloc] at h2
  have h1 : ((w.alloc (.cells #[v1] t1)).alloc (.cells #[v2] t2)).heap[w.heap.size]? = some (.cells #[v1] t1 (0, 0)) := by
    rw [((Below.refl (w.heap.size + 1) (w.alloc (.cells #[v1] t1))).alloc (by simp) (.cells #[v2] t2)).block _ (by omega)]
    exact Go.heap_alloc_new w (.cells #[v1] t1)
  exact ⟨(h.block _ (by omega)).trans h1, (h.block _ (by omega)).trans h2⟩
end Go.Proofs.YtefcbnlljpdjnaaDoor.Q
namespace Go.Proofs.YtefcbnlljpdjnaaDoor.Q
open Go.RowKit Go.Sort Go.Shelf Go.Proofs.YtefcbnlljpdjnaaDoorW.PrintWords Go.Proofs.YtefcbnlljpdjnaaDoorW.PrintLast Go.Proofs.YtefcbnlljpdjnaaDoorW.PrintMore
set_option linter.unusedVariables false
theorem box_three (w : World) (v1 v2 v3 : Value) (t1 t2 t3 : Nat) : ∀ W, Below (w.heap.size + 1 + 1 + 1) (((w.alloc (.cells #[v1] t1)).alloc (.cells #[v2] t2)).alloc (.cells #[v3] t3)) W →
    W.heap[w.heap.size]? = some (.cells #[v1] t1 (0, 0)) ∧ W.heap[w.heap.size + 1]? = some (.cells #[v2] t2 (0, 0)) ∧ W.heap[w.heap.size + 1 + 1]? = some (.cells #[v3] t3 (0, 0)) := fun W h => by
  have h3 := Go.heap_alloc_new ((w.alloc (.cells #[v1] t1)).alloc (.cells #[v2] t2)) (.cells #[v3] t3)
  rw [World.size_alloc, World.size_alloc] at h3
  have hb : Below (w.heap.size + 1 + 1) ((w.alloc (.cells #[v1] t1)).alloc (.cells #[v2] t2)) (((w.alloc (.cells #[v1] t1)).alloc (.cells #[v2] t2)).alloc (.cells #[v3] t3)) := (Below.refl _ _).alloc (by simp) _
  obtain ⟨a, b⟩ := box_two w v1 v2 t1 t2 _ hb
  exact ⟨(h.block _ (by omega)).trans a, (h.block _ (by omega)).trans b, (h.block _ (by omega)).trans h3⟩
theorem bsz3 {w w2 : World} {o1 o2 o3 : Obj} (h : Below (w.heap.size + 1 + 1 + 1) (((w.alloc o1).alloc o2).alloc o3) w2) : w.heap.size + 1 + 1 + 1 ≤ w2.heap.size := by simpa using h.size
end Go.Proofs.YtefcbnlljpdjnaaDoor.Q
