/- Texts of one proof put together: walks of the program's functions, and plain laws on what they compute. -/
import Derived.Test.YtbedgcngoddkdaaH0
import Derived.Test.YtbedgcngoddkdaaH1
import Derived.Test.YtbedgcngoddkdaaH2
import Derived.Test.YtbedgcngoddkdaaH3
import Derived.Test.YtbedgcngoddkdaaH4
import Derived.Shelf.SlicesE.DeleteFunc
import Derived.Lib.SliceRun
import Derived.Lib.SlicesCompact
import Derived.Test.YtbedgcngoddkdaaProg
import Derived.Below
import Derived.Deep.Draws
import Derived.Deep.AppendLies
import Derived.Maps.AppendAt
import Derived.OwnWalk
import Derived.Laws.BytesArg
import Derived.Laws.MakeOwn
import Derived.Laws.OwnMore
import Derived.Deep.OwnRows
import Derived.Tactics
import Derived.Lib.ConvBytes
import Derived.Laws.Slices
import Derived.WalkKit
import Derived.KernelRfl
import Derived.RowKit3
import Derived.Deep.LoopGhost
import Derived.Deep.QuietTactic
import Derived.BigQuiet
import Derived.WideLaws
import Derived.Deep.DeepCutAuto
import Derived.Deep.CutBlock
import Derived.Deep.RegionHeld3
import Derived.Laws.Rows
import Derived.Lib.AppendStr
import Derived.ArgAppend
import Derived.Laws.IdiomCopy
import Derived.OrdersHeld
import Derived.Laws.BitsLemmas
import Derived.RowKit
import Derived.Lib.OwnBridge
import Derived.Sort.OwnSorted
import Derived.Sort.Grow
import Derived.Sort.Walk0
import Derived.Lib.Strings
import Derived.Maps.Own
import Derived.StringKeys
import Derived.Maps.OwnOps
import Derived.Maps.OwnSet
import Derived.Maps.Views
import Derived.Laws.AppendOwn
import Derived.Deep.DrawnRows
import Derived.Shelf.Sort.Plain
import Derived.Shelf.Slices.CompactS
import Derived.Shelf.Slices.In.SortNone
import Derived.RangeFuncBox
import Derived.RangeFuncLeaves
import Derived.Shelf.Abstract
import Derived.OwnWalkIn
import Derived.TacticsInMore
import Derived.LoopNIn
import Derived.LoopIn
import Derived.Shelf.Strings.OnBuilder
import Derived.Ground.NamesProg
import Derived.Ground.SlgfProg
import Derived.Lib.SlKept
set_option linter.unusedVariables false
set_option linter.unusedSimpArgs false
namespace Go.Proofs.Ytbedgcngoddkdaa.Q
open Go.RowKit Go.Sort Go.Shelf Go.Proofs.YtbedgcngoddkdaaW.PrintWords Go.Proofs.YtbedgcngoddkdaaW.PrintLast Go.Proofs.YtbedgcngoddkdaaW.PrintMore
set_option linter.unusedVariables false
set_option linter.unusedSimpArgs false
def Tells (g : Nat) (bs lb : Array Value) (p : ByteArray → Bool) (base : Nat) (w : World) : Prop :=
  ∀ (x : ByteArray) (W : World), Below base w W → Calls Try.prog g (bs ++ #[.string x] ++ lb) W fun e W' => e = .returned (.bool (p x)) ∧ Below W.heap.size W W'
def Enters (g : Nat) : Prop := ∀ args w, (callFunc g args).run Try.prog w = .ok (.enter g args) w
def HitPost (l : List ByteArray) (p : ByteArray → Bool) (w : World) (e : Ending) (w' : World) : Prop := ∃ i : Int, e = .returned (.int .i64 i) ∧ Hit l p i ∧ Below w.heap.size w w'
set_option maxHeartbeats 1000000 in
theorem indexFunc_gen (g : Nat) (bs lb : Array Value) (p : ByteArray → Bool) (eg : Enters g) (A0 : Option Addr) (c0 : Nat) (l0 : List ByteArray) (w : World) (hr0 : Kd.C Kd.string w A0 l0.length l0) (hn : l0.length < 4611686018427387904) (ht : Tells g bs lb p w.heap.size w) :
    Calls Try.prog 97 #[.slice A0 l0.length c0, .func (.func g) bs lb] w (HitPost l0 p w) := by
  have HR0 := Aside0.mk hr0
  have HT := Aside0.mk ht
  unfold Enters at eg
  clear hr0 ht
  go_enter Try.func97, Try.ntmps97
  go_wp2
  go_loopw [8] (fun i wr => ∃ m : Nat, m ≤ l0.length ∧ i = .int .i64 m ∧ Aside0 (NoHit l0 p m) ∧ Aside0 (Below w.heap.size w wr)) (fun i _ => l0.length - (intOf i).toNat)
  case atStart => exact ⟨0, Nat.zero_le _, rfl, ⟨fun j hj => absurd hj (Nat.not_lt_zero _)⟩, ⟨Below.refl _ _⟩⟩
  case round =>
    obtain ⟨m, hm, rfl, HA, HB⟩ := hrel
    by_cases hlt : m < l0.length
    · obtain ⟨ad, e0, hx⟩ := Kd.at_string (Kd.C_below HR0.out HB.out) (m : Int) (by omega) (by omega)
      cases e0
      simp only [Int.toNat_natCast] at hx
      have hcall := HT.out (rdOf ByteArray.empty l0 (m : Int)) wr HB.out
      cases hp : p (rdOf ByteArray.empty l0 (m : Int)) with
      | true =>
        rw [hp] at hcall
        have HP := Aside0.mk hp
        clear hp
        go_wp2_with (go_at_fn g; refine hcall.mono ?_; rintro e w' ⟨rfl, hb⟩; have HB2 := Aside0.mk hb; clear hb)
        go_ret
        exact ⟨m, rfl, .inr ⟨m, rfl, hlt, HP.out, HA.out⟩, HB.out.trans (HB2.out.mono HB.out.size)⟩
      | false =>
        rw [hp] at hcall
        have hq : Aside0 (NoHit l0 p (m + 1)) := ⟨fun j hj => by
          by_cases e : j = m
          · rw [e]; exact hp
          · exact HA.out j (by omega)⟩
        clear hp
        go_wp2_with (go_at_fn g; refine hcall.mono ?_; rintro e w' ⟨rfl, hb⟩; have HB2 := Aside0.mk hb; clear hb)
        go_roundw
        case rel => exact ⟨m + 1, by omega, by go_num, hq, ⟨HB.out.trans (HB2.out.mono HB.out.size)⟩⟩
        case measure => simp [intOf]; omega
    · obtain rfl : m = l0.length := by omega
      go_wp2
      go_ret
      exact ⟨-1, rfl, .inl ⟨rfl, HA.out⟩, HB.out⟩
end Go.Proofs.Ytbedgcngoddkdaa.Q
namespace Go.Proofs.Ytbedgcngoddkdaa.Q
open Go.RowKit Go.Sort Go.Shelf Go.Proofs.YtbedgcngoddkdaaW.PrintWords Go.Proofs.YtbedgcngoddkdaaW.PrintLast Go.Proofs.YtbedgcngoddkdaaW.PrintMore
set_option linter.unusedVariables false
def wordsV (l : List IN) : List ByteArray := match prefixesW l with
  | some ps => wordsW l ps
  | none => []
theorem wordsV_trie {ws : List ByteArray} (h : VW ws) : wordsV (trieW ws) = ws := by
  unfold wordsV
  rw [prefixesW_trie h]
  exact wordsW_trie h.ss
theorem trie_split (l : List IN) : isTrieW l = false ∨ ∃ ws, VW ws ∧ l = trieW ws ∧ isTrieW l = true ∧ wordsV l = ws := by
  rcases trie_cases l with h | ⟨ws, hv, rfl, ht⟩
  · exact .inl h
  · exact .inr ⟨ws, hv, rfl, ht, wordsV_trie hv⟩
theorem box_at {w : World} {g t : Nat} {v : Value} (h : w.heap[g]? = some (.cells #[v] t (0, 0))) : w.cell? ⟨g, 0, none⟩ = some v := box_cell h
theorem bsz2 {w w2 : World} {o1 o2 : Obj} (h : Below (w.heap.size + 1 + 1) ((w.alloc o1).alloc o2) w2) : w.heap.size + 1 + 1 ≤ w2.heap.size := by simpa using h.size
theorem box_two (w : World) (v1 v2 : Value) (t1 t2 : Nat) : ∀ W, Below (w.heap.size + 1 + 1) ((w.alloc (.cells #[v1] t1)).alloc (.cells #[v2] t2)) W → W.heap[w.heap.size]? = some (.cells #[v1] t1 (0, 0)) ∧ W.heap[w.heap.size + 1]? = some (.cells #[v2] t2 (0, 0)) := fun W h => by
  have h2 := Go.heap_alloc_new (w.alloc (.cells #[v1] t1)) (.cells #[v2] t2)
  rw [World.size_alloc] at h2
  have h1 : ((w.alloc (.cells #[v1] t1)).alloc (.cells #[v2] t2)).heap[w.heap.size]? = some (.cells #[v1] t1 (0, 0)) := by
    rw [((Below.refl (w.heap.size + 1) (w.alloc (.cells #[v1] t1))).alloc (by simp) (.cells #[v2] t2)).block _ (by omega)]
    exact Go.heap_alloc_new w (.cells #[v1] t1)
  exact ⟨(h.block _ (by omega)).trans h1, (h.block _ (by omega)).trans h2⟩
end Go.Proofs.Ytbedgcngoddkdaa.Q
