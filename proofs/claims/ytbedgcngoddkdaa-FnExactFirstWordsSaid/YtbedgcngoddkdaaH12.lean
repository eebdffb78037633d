/- Texts of one proof put together: walks of the program's functions, and plain laws on what they compute. -/
import Derived.Test.YtbedgcngoddkdaaH0
import Derived.Test.YtbedgcngoddkdaaH1
import Derived.Test.YtbedgcngoddkdaaH2
import Derived.Test.YtbedgcngoddkdaaH3
import Derived.Test.YtbedgcngoddkdaaH4
import Derived.Test.YtbedgcngoddkdaaH6
import Derived.Test.YtbedgcngoddkdaaH7
import Derived.Test.YtbedgcngoddkdaaH8
import Derived.Test.YtbedgcngoddkdaaProg
import Derived.Below
import Derived.Deep.Draws
import Derived.Deep.AppendLies
import Derived.Maps.AppendAt
import Derived.OwnWalk
import Derived.Laws.BytesArg
import Derived.Laws.MakeOwn
import Derived.Laws.OwnMore
import Derived.Deep.OwnRows
import Derived.Tactics
import Derived.Lib.ConvBytes
import Derived.Laws.Slices
import Derived.WalkKit
import Derived.KernelRfl
import Derived.RowKit3
import Derived.Deep.LoopGhost
import Derived.Deep.QuietTactic
import Derived.BigQuiet
import Derived.WideLaws
import Derived.Deep.DeepCutAuto
import Derived.Deep.CutBlock
import Derived.Deep.RegionHeld3
import Derived.Laws.Rows
import Derived.Lib.AppendStr
import Derived.ArgAppend
import Derived.Laws.IdiomCopy
import Derived.OrdersHeld
import Derived.Laws.BitsLemmas
import Derived.RowKit
import Derived.Sort.Walk0
import Derived.Lib.Strings
import Derived.Lib.SlicesCompact
import Derived.Maps.Own
import Derived.StringKeys
import Derived.Maps.OwnOps
import Derived.Maps.OwnSet
import Derived.Maps.Views
import Derived.Laws.AppendOwn
import Derived.Deep.DrawnRows
import Derived.Shelf.Sort.Plain
import Derived.Shelf.Slices.CompactS
import Derived.Shelf.Slices.In.SortNone
import Derived.RangeFuncBox
import Derived.RangeFuncLeaves
import Derived.Shelf.Abstract
import Derived.OwnWalkIn
import Derived.TacticsInMore
import Derived.LoopNIn
import Derived.LoopIn
import Derived.Lib.OwnBridge
import Derived.Sort.OwnSorted
import Derived.Sort.Grow
import Derived.Shelf.Strings.OnBuilder
import Derived.Ground.NamesProg
import Derived.Ground.SlgfProg
import Derived.Lib.SlKept
import Derived.Shelf.SlicesE.DeleteFunc
import Derived.Lib.SliceRun
set_option linter.unusedVariables false
set_option linter.unusedSimpArgs false
namespace Go.Proofs.Ytbedgcngoddkdaa.Q
open Go.RowKit Go.Sort Go.Shelf Go.Proofs.YtbedgcngoddkdaaW.PrintWords Go.Proofs.YtbedgcngoddkdaaW.PrintLast Go.Proofs.YtbedgcngoddkdaaW.PrintMore
set_option linter.unusedVariables false
def begT (p o : ByteArray) : Bool := decide (o ≠ p) && begW p o
def begX (wa : List ByteArray) (x : ByteArray) : Bool := wa.any (begT x)
set_option maxHeartbeats 1000000 in
theorem begins1_tells (p : ByteArray) (B base : Nat) (w : World) (hB : B < base) (hbox : w.heap[B]? = some (.cells #[.string p] 9 (0, 0))) :
    Tells 101 #[] #[.pointer (some ⟨B, 0, none⟩)] (begT p) base w := by
  intro x W hW
  have hc : W.cell? ⟨B, 0, none⟩ = some (.string p) := box_at ((hW.block B hB).trans hbox)
  clear hbox hW
  show Calls Try.prog 101 #[.string x, .pointer (some ⟨B, 0, none⟩)] W _
  by_cases h0 : x = p
  · subst h0
    have hb : begT x x = false := by simp [begT]
    have HB := Aside0.mk hb
    have e0 : (x.toList != x.toList) = false := by simp
    clear hb
    go_enter Try.func101, Try.ntmps101
    go_wp2
    go_ret
    exact ⟨by rw [HB.out]; first | rfl | exact congrArg (fun b => Ending.returned (.bool b)) e0, Below.refl _ _⟩
  · have e0 : (x.toList != p.toList) = true := by
      rw [bne_iff_ne]; exact fun e => h0 ((tl_eq _ _).1 e)
    have e1 : ¬ x.toList = p.toList := fun e => h0 ((tl_eq _ _).1 e)
    by_cases h1 : x.size ≤ p.size
    · by_cases h2 : (p.extract 0 x.size).toList = x.toList
      · have hb : begT p x = true := by simp [begT, begW, h1, h2, h0]
        have HB := Aside0.mk hb
        clear hb h0
        go_enter Try.func101, Try.ntmps101
        go_wp2
        go_ret
        exact ⟨by rw [HB.out]; first | rfl | exact congrArg (fun b => Ending.returned (.bool b)) e0, Below.refl _ _⟩
      · have hb : begT p x = false := by simp [begT, begW, h1, h2]
        have HB := Aside0.mk hb
        clear hb h0
        have h2b : ((p.extract 0 x.size).toList == x.toList) = false := beq_eq_false_iff_ne.mpr h2
        clear h2
        go_enter Try.func101, Try.ntmps101
        go_wp2
        go_ret
        exact ⟨by rw [HB.out]; first | rfl | exact congrArg (fun b => Ending.returned (.bool b)) e0, Below.refl _ _⟩
    · have hb : begT p x = false := by simp [begT, begW, h1]
      have HB := Aside0.mk hb
      clear hb h0
      have h1b : decide (x.size ≤ p.size) = false := decide_eq_false h1
      clear h1
      go_enter Try.func101, Try.ntmps101
      go_wp2
      go_ret
      exact ⟨by rw [HB.out]; first | rfl | exact congrArg (fun b => Ending.returned (.bool b)) e0, Below.refl _ _⟩
theorem begins1_enters : Enters 101 := enters_of Try.func101 (by kernel_rfl) rfl
set_option maxHeartbeats 1000000 in
theorem begins_tells {wa : List ByteArray} (hva : VW wa) (A : Option Addr) (c base : Nat) (w : World) (hc : (trieW wa).length ≤ c) (hC : ∀ W, Below base w W → Kd.C k86 W A (trieW wa).length (trieW wa)) :
    Tells 67 #[.agg #[.slice A (trieW wa).length c]] #[] (begX wa) base w := by
  intro x W hW
  have hr := hC W hW
  obtain ⟨k2, hk2⟩ := (implWords hva).ex
  have h40 : wa.length < 4611686018427387904 := by have := hva.len; omega
  have HX := Aside0.mk (box_two W (.slice A (trieW wa).length c) (.string x) 30 9)
  have HB0 := Aside0.mk (((Below.refl W.heap.size W).alloc (Nat.le_refl _) (.cells #[.slice A (trieW wa).length c] 30)).alloc (by simp) (.cells #[.string x] 9))
  have HR := Aside0.mk hr
  have HC := Aside0.mk hc
  have HK2 := Aside0.mk hk2
  have H40 := Aside0.mk h40
  clear hr hc hk2 h40 hC hW hva
  show Calls Try.prog 67 #[.agg #[.slice A (trieW wa).length c], .string x] W _
  go_enter Try.func67, Try.ntmps67
  go_wp2_with (first
    | (go_at_call 57; (with_reducible refine (impl_Trie_words.calls k2 A c _ wa _ (Kd.C_below HR.out HB0.out) HC.out HK2.out).mono ?_); rintro e w3 ⟨v3, rfl, hr, hb⟩; obtain ⟨A3, c3, rfl⟩ := Kd.R_slice hr; have HR3 := Aside0.mk hr; have HQ3 := Aside0.mk (show Below (W.heap.size + 1 + 1) _ w3 by simpa using hb); clear hr hb)
    | (go_at_call 61; (with_reducible refine (containsFunc_gen 101 #[] #[.pointer (some ⟨W.heap.size + 1, 0, none⟩)] (begT x) begins1_enters A3 c3 wa _ (Kd.R_reads' HR3.out).2.2 H40.out (begins1_tells x (W.heap.size + 1) w3.heap.size w3 (by have := bsz2 HQ3.out; omega) (HX.out w3 HQ3.out).2)).mono ?_); rintro e w4 ⟨rfl, hb⟩; have HB4 := Aside0.mk hb; clear hb))
  go_ret
  exact ⟨rfl, (HB0.out.trans (HQ3.out.mono (by omega))).trans (HB4.out.mono (by have := bsz2 HQ3.out; omega))⟩
end Go.Proofs.Ytbedgcngoddkdaa.Q
