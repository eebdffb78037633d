/- The law FnExactTimesTrie: for every input the call answers true and leaves its arguments as they were. -/
import Derived.Test.YtefcbnlljpdjnaaDoorE0
import Derived.Test.YtefcbnlljpdjnaaDoorE1
import Derived.Test.YtefcbnlljpdjnaaDoorE2
import Derived.Test.YtefcbnlljpdjnaaDoorE3
import Derived.Test.YtefcbnlljpdjnaaDoorE4
import Derived.Test.YtefcbnlljpdjnaaDoorEwWords
import Derived.Test.YtefcbnlljpdjnaaDoorEwLast
import Derived.Test.YtefcbnlljpdjnaaDoorEwTab
import Derived.Test.YtefcbnlljpdjnaaDoorEwApart
import Derived.Test.YtefcbnlljpdjnaaDoorEwFoot
import Derived.Test.YtefcbnlljpdjnaaDoorEwKept
import Derived.Test.YtefcbnlljpdjnaaDoorEwShare
import Derived.Test.YtefcbnlljpdjnaaDoorEwN
import Derived.Test.YtefcbnlljpdjnaaDoorEwEqStruct
import Derived.Test.YtefcbnlljpdjnaaDoorEwRepsOne
import Derived.Test.YtefcbnlljpdjnaaDoorEwInv
import Derived.Test.YtefcbnlljpdjnaaDoorEwGuard
import Derived.Test.YtefcbnlljpdjnaaDoorEwMore
import Derived.Test.YtefcbnlljpdjnaaDoorProg
import Derived.Below
import Derived.Deep.Draws
import Derived.Deep.AppendLies
import Derived.Maps.AppendAt
import Derived.OwnWalk
import Derived.Laws.BytesArg
import Derived.Laws.MakeOwn
import Derived.Laws.OwnMore
import Derived.Deep.OwnRows
import Derived.Tactics
import Derived.Lib.ConvBytes
import Derived.Laws.Slices
import Derived.WalkKit
import Derived.KernelRfl
import Derived.RowKit3
import Derived.Deep.LoopGhost
import Derived.Deep.QuietTactic
import Derived.BigQuiet
import Derived.WideLaws
import Derived.Deep.DeepCutAuto
import Derived.Deep.CutBlock
import Derived.Deep.RegionHeld3
import Derived.Laws.Rows
import Derived.Lib.AppendStr
import Derived.ArgAppend
import Derived.Laws.IdiomCopy
import Derived.OrdersHeld
import Derived.Laws.BitsLemmas
import Derived.RowKit
import Derived.Shelf.Strings.SlTrimAscii
import Derived.Ground.NamesProg
import Derived.Ground.SlgfProg
import Derived.Lib.SlicesCompact
import Derived.Maps.Own
import Derived.StringKeys
import Derived.Maps.OwnOps
import Derived.Maps.OwnSet
import Derived.Maps.Views
import Derived.Laws.AppendOwn
import Derived.Deep.DrawnRows
import Derived.Shelf.Sort.Plain
import Derived.Shelf.Slices.CompactS
import Derived.Shelf.Slices.In.SortNone
import Derived.RangeFuncBox
import Derived.RangeFuncLeaves
import Derived.Shelf.Abstract
import Derived.OwnWalkIn
import Derived.TacticsInMore
import Derived.LoopNIn
import Derived.LoopIn
import Derived.Lib.OwnBridge
import Derived.Sort.OwnSorted
import Derived.Sort.Grow
import Derived.Shelf.Strings.OnBuilder
import Derived.Sort.Walk0
import Derived.Lib.Strings
import Derived.Shelf.SlicesE.DeleteFunc
import Derived.Lib.SliceRun
import Derived.Deep.Slices
import Derived.Deep.Fields
import Derived.ChangeSame
import Derived.ChangeArms
import Derived.WideShapes
import Derived.Test.YtefcbnlljpdjnaaDoorRows
import Derived.Test.YtefcbnlljpdjnaaDoorTie
import Derived.Test.YtefcbnlljpdjnaaDoorCards
import Derived.ProofKit
import Derived.OpenShut
import Derived.ShutString
import Derived.ChangeOld
import Derived.SizedLaws
import Derived.Carry
import Derived.LaidMore
import Derived.Lay
import Derived.SevenTiedAt
import Derived.Stop.Joined
set_option linter.unusedVariables false
set_option linter.unusedSimpArgs false
namespace Go.Proofs.YtefcbnlljpdjnaaDoor.Q
open Go.RowKit Go.Proofs.YtefcbnlljpdjnaaDoorW.PrintWords Go.Proofs.YtefcbnlljpdjnaaDoorW.PrintLast
def letterW (n : Int) : ByteArray := strOfNums [(wrap64 (97 + n)) % 256]
def prefsW : List ByteArray → List IN → Option (List ByteArray)
  | ps, [] => some ps
  | ps, n :: rest => if 0 ≤ n.f1 ∧ n.f1 < ps.length ∧ 0 ≤ n.f0 ∧ n.f0 ≤ 25 then prefsW (ps ++ [rdOf ByteArray.empty ps n.f1 ++ letterW n.f0]) rest else none
def wordsW : List IN → List ByteArray → List ByteArray
  | n :: l, p :: ps => if n.f2 = true then p :: wordsW l ps else wordsW l ps
  | _, _ => []
def resP : Option (List ByteArray) → List ByteArray × Bool
  | some r => (r, true)
  | none => ([], false)
theorem in_eq (a b c : Int) : impl_in.f a b c = some (decide (b ≤ a ∧ a ≤ c)) := by
 unfold impl_in.f
 by_cases h : b ≤ a
 ·rw [if_pos h]; congr 1; exact decide_eq_decide.2 (by omega)
 ·rw [if_neg (by omega)]; congr 1; exact (decide_eq_false (by omega)).symm
theorem letterW_size (n : Int) : (letterW n).size = 1 := by
 simp [letterW, strOfNums, ByteArray.size]
theorem size_app (a b : ByteArray) : (a ++ b).size = a.size + b.size := by simp
theorem prefixes_l0 (y : List IN) (hy : y.length ≤ 1000) : ∀ (n i : Nat) (ps : List ByteArray), i + n = y.length → ps.length = i + 1 → (∀ p ∈ ps, p.size ≤ ps.length) →
  Ev (fun k => impl_Trie_prefixes.l0 k ps y (y.length : Int) (i : Int)) (resP (prefsW ps (y.drop i))) := by
 intro n
 induction n with
 | zero =>
  intro i ps h hp hs
  refine Ev.succ ?_
  simp only [impl_Trie_prefixes.l0]
  rw [List.drop_of_length_le (by omega)]
  exact Ev.neg (by omega) (Ev.pure _)
 | succ n ih =>
  intro i ps h hp hs
  refine Ev.succ ?_
  simp only [impl_Trie_prefixes.l0, in_eq, impl_letter.f, Option.bind_some]
  have hi : i < y.length := by omega
  rw [List.drop_eq_getElem_cons hi]
  simp only [rd_nat' y i hi, prefsW]
  refine Ev.pos (by omega) (Ev.pos (by omega) (Ev.pos (by omega) ?_))
  by_cases h1 : 0 ≤ y[i].f1 ∧ y[i].f1 ≤ (i : Int)
  ·refine Ev.pos (by simpa using h1) ?_
   by_cases h2 : 0 ≤ y[i].f0 ∧ y[i].f0 ≤ 25
   ·refine Ev.pos (by simpa using h2) (Ev.pos h1.1 (Ev.pos (by omega) ?_))
    rw [if_pos (by omega)]
    have hmem : rdOf ByteArray.empty ps y[i].f1 ∈ ps := at_mem h1.1 (by omega)
    have hsz := hs _ hmem
    have hls := letterW_size y[i].f0
    have hls' : (strOfNums [(wrap64 (97 + y[i].f0)) % 256]).size = 1 := hls
    refine Ev.pos (by rw [hls']; omega) (Ev.pos (by omega) ?_)
    rw [wnext i (by omega)]
    refine ih (i + 1) _ (by omega) (by simp; omega) (fun p hp2 => ?_)
    rw [List.length_append, List.length_singleton]
    rcases List.mem_append.1 hp2 with h3 | h3
    ·have := hs p h3; omega
    ·rw [List.mem_singleton.1 h3, size_app]
     have : (letterW y[i].f0).size = 1 := hls
     omega
   ·rw [if_neg (by omega)]
    exact Ev.neg (by simpa using h2) (Ev.pure _)
  ·rw [if_neg (by omega)]
   exact Ev.neg (by simpa using h1) (Ev.pure _)
def prefixesW (l : List IN) : Option (List ByteArray) := if 1 ≤ l.length ∧ l.length ≤ 481 then prefsW [ByteArray.empty] (l.drop 1) else none
theorem prefixes_ev (l : List IN) : Ev (fun k => impl_Trie_prefixes.f k l) (resP (prefixesW l)) := by
 unfold impl_Trie_prefixes.f prefixesW
 simp only [in_eq, Option.bind_some]
 by_cases h : 1 ≤ l.length ∧ l.length ≤ 481
 ·rw [if_pos h]
  refine Ev.pos (by simp; omega) (Ev.pos (by omega) ?_)
  have := prefixes_l0 (l.drop 1) (by simp; omega) (l.drop 1).length 0 [ByteArray.empty] (by omega) rfl (fun p hp => by rw [List.mem_singleton.1 hp]; exact Nat.zero_le _)
  rw [List.drop_zero] at this
  exact this
 ·rw [if_neg h]
  exact Ev.neg (by simp; omega) (Ev.pure _)
theorem prefsW_length : ∀ {l : List IN} {ps r : List ByteArray}, prefsW ps l = some r → r.length = ps.length + l.length
 | [], ps, r, h => by
  simp only [prefsW] at h
  injection h with h
  subst h; rfl
 | n :: l, ps, r, h => by
  simp only [prefsW] at h
  split at h
  ·have := prefsW_length h
   simp at this ⊢
   omega
  ·cases h
theorem prefixesW_length {l : List IN} {r : List ByteArray} (h : prefixesW l = some r) : r.length = l.length ∧ l.length ≤ 481 ∧ 1 ≤ l.length := by
 unfold prefixesW at h
 split at h
 ·rename_i hl
  have := prefsW_length h
  simp at this
  omega
 ·cases h
theorem words_l0 (ps : List ByteArray) (l : List IN) (hl : l.length ≤ 1000) (hp : ps.length = l.length) : ∀ (n i : Nat) (acc : List ByteArray), i + n = l.length → acc.length ≤ i →
  Ev (fun k => impl_Trie_words.l0 k ps acc l (l.length : Int) (i : Int)) (acc ++ wordsW (l.drop i) (ps.drop i)) := by
 intro n
 induction n with
 | zero =>
  intro i acc h ha
  refine Ev.succ ?_
  simp only [impl_Trie_words.l0]
  rw [List.drop_of_length_le (by omega), List.drop_of_length_le (by omega)]
  simp only [wordsW, List.append_nil]
  exact Ev.neg (by omega) (Ev.pure _)
 | succ n ih =>
  intro i acc h ha
  refine Ev.succ ?_
  simp only [impl_Trie_words.l0]
  have hi : i < l.length := by omega
  have hi2 : i < ps.length := by omega
  rw [List.drop_eq_getElem_cons hi, List.drop_eq_getElem_cons hi2]
  simp only [rd_nat' l i hi, rd_nat ps hi2, wordsW]
  refine Ev.pos (by omega) (Ev.pos (by omega) (Ev.pos (by omega) ?_))
  rw [wnext i (by omega)]
  by_cases e : l[i].f2 = true
  ·refine Ev.pos e (Ev.pos (by omega) (Ev.pos (by omega) ?_))
   have := ih (i + 1) (acc ++ [ps[i]]) (by omega) (by simp; omega)
   rw [if_pos e]
   simpa using this
  ·refine Ev.neg e ?_
   rw [if_neg e]
   exact ih (i + 1) acc (by omega) (by omega)
theorem words_ev (l : List IN) (ps : List ByteArray) (h : prefixesW l = some ps) : Ev (fun k => impl_Trie_words.f k l) (wordsW l ps) := by
 unfold impl_Trie_words.f
 have hl := prefixesW_length h
 refine Ev.bind (prefixes_ev l) ?_
 rw [h]
 have := words_l0 ps l (by omega) hl.1 l.length 0 [] (by omega) (by simp)
 simpa [resP] using this
theorem node_l0 (a b : List IN) (hab : a.length = b.length) (hl : a.length ≤ 1048576) : ∀ (n i : Nat), i + n = a.length → Ev (fun k => impl_Node.l0 k a b (a.length : Int) (i : Int)) (decide (a.drop i = b.drop i)) := by
 intro n
 induction n with
 | zero =>
  intro i h
  refine Ev.succ ?_
  simp only [impl_Node.l0]
  refine Ev.neg (by omega) ?_
  rw [List.drop_of_length_le (by omega), List.drop_of_length_le (by omega)]
  exact Ev.pure _
 | succ n ih =>
  intro i h
  refine Ev.succ ?_
  simp only [impl_Node.l0]
  have hi : i < a.length := by omega
  have hi2 : i < b.length := by omega
  refine Ev.pos (by omega) (Ev.pos (by omega) (Ev.pos (by omega) (Ev.pos (by omega) ?_)))
  simp only [rd_nat' a i hi, rd_nat' b i hi2]
  have hd : (a.drop i = b.drop i) ↔ (a[i] = b[i] ∧ a.drop (i + 1) = b.drop (i + 1)) := by
   rw [List.drop_eq_getElem_cons hi, List.drop_eq_getElem_cons hi2]
   exact List.cons_eq_cons
  have hne : ∀ x y : IN, (!(x.f0 == y.f0) || (!(x.f1 == y.f1) || !(x.f2 == y.f2))) = !decide (x = y) := fun x y => by
   obtain ⟨x0, x1, x2⟩ := x
   obtain ⟨y0, y1, y2⟩ := y
   by_cases h0 : x0 = y0 <;> by_cases h1 : x1 = y1 <;> by_cases h2 : x2 = y2 <;> simp [h0, h1, h2]
  rw [decide_eq_decide.2 hd, hne]
  by_cases e : a[i] = b[i]
  ·refine Ev.neg (by simp [e]) ?_
   rw [wnext i (by omega)]
   have hq := ih (i + 1) (by omega)
   have e2 : decide (a[i] = b[i] ∧ a.drop (i + 1) = b.drop (i + 1)) = decide (a.drop (i + 1) = b.drop (i + 1)) := decide_eq_decide.2 (and_iff_right e)
   rw [e2]
   exact hq
  ·refine Ev.pos (by simp [e]) ?_
   have e2 : decide (a[i] = b[i] ∧ a.drop (i + 1) = b.drop (i + 1)) = false := decide_eq_false (fun h => e h.1)
   rw [e2]
   exact Ev.pure _
theorem node_ev (a b : List IN) (hl : a.length ≤ 1048576) : Ev (fun k => impl_Node.f k a b) (decide (a = b)) := by
 unfold impl_Node.f
 by_cases hab : a.length = b.length
 ·refine Ev.pos (by omega) ?_
  simpa using node_l0 a b hab hl a.length 0 (by omega)
 ·have e : a ≠ b := fun h => hab (congrArg List.length h)
  rw [decide_eq_false e]
  exact Ev.neg (by omega) (Ev.pure _)
theorem sorted_l0 (l : List ByteArray) (hl : l.length ≤ 1000000) : ∀ (i : Nat), i < l.length → Ev (fun k => slices_IsSorted_string_string.l0 k l (i : Int)) (decide (∀ j, j < i → atW l (j : Int) ≤ atW l ((j + 1 : Nat) : Int))) := by
 intro i
 induction i with
 | zero =>
  intro h
  refine Ev.succ ?_
  simp only [slices_IsSorted_string_string.l0]
  rw [decide_eq_true (fun j hj => absurd hj (Nat.not_lt_zero _))]
  exact Ev.neg (by omega) (Ev.pure _)
 | succ i ih =>
  intro h
  refine Ev.succ ?_
  have e1 : wrap64 (((i + 1 : Nat) : Int) - 1) = (i : Int) := by unfold wrap64; omega
  simp only [slices_IsSorted_string_string.l0, less_pure, Option.bind_some, e1]
  refine Ev.pos (by omega) (Ev.pos (by omega) (Ev.pos (by omega) (Ev.pos (by omega) (Ev.pos (by omega) ?_))))
  by_cases hlt : atW l ((i + 1 : Nat) : Int) < atW l (i : Int)
  ·have e2 : decide (∀ j, j < i + 1 → atW l (j : Int) ≤ atW l ((j + 1 : Nat) : Int)) = false := decide_eq_false (fun hf => absurd hlt (List.not_lt.2 (hf i (by omega))))
   rw [e2]
   exact Ev.pos (decide_eq_true hlt) (Ev.pure _)
  ·refine Ev.neg (fun h2 => hlt (of_decide_eq_true h2)) ?_
   have hq := ih (by omega)
   have e2 : decide (∀ j, j < i + 1 → atW l (j : Int) ≤ atW l ((j + 1 : Nat) : Int)) = decide (∀ j, j < i → atW l (j : Int) ≤ atW l ((j + 1 : Nat) : Int)) := decide_eq_decide.2 ⟨fun hf j hj => hf j (by omega), fun hf j hj => by
    by_cases ej : j = i
    ·subst ej; exact List.not_lt.1 hlt
    ·exact hf j (by omega)⟩
   rw [e2]
   exact hq
theorem adj_SW (l : List ByteArray) : (∀ j, j < l.length - 1 → atW l (j : Int) ≤ atW l ((j + 1 : Nat) : Int)) ↔ SW l := by
 constructor
 ·intro h
  unfold SW
  rw [List.pairwise_iff_getElem]
  have key : ∀ d i, i + d < l.length → atW l (i : Int) ≤ atW l ((i + d : Nat) : Int) := by
   intro d
   induction d with
   | zero => intro i _; exact List.le_refl _
   | succ d ih =>
    intro i hi
    exact List.le_trans (ih i (by omega)) (h (i + d) (by omega))
  intro i j hi hj hij
  have := key (j - i) i (by omega)
  rw [show i + (j - i) = j by omega] at this
  simpa [atW, rdOf, hi, hj] using this
 ·intro h j hj
  exact h.at (by omega) (by omega) (by omega)
instance (l : List ByteArray) : Decidable (SW l) := inferInstanceAs (Decidable (l.Pairwise fun a b => lw a ≤ lw b))
theorem sorted_ev (l : List ByteArray) (hl : l.length ≤ 1000000) : Ev (fun k => slices_IsSorted_string_string.f k l) (decide (SW l)) := by
 unfold slices_IsSorted_string_string.f
 by_cases h0 : l.length = 0
 ·obtain rfl := List.eq_nil_of_length_eq_zero h0
  refine Ev.succ ?_
  simp only [slices_IsSorted_string_string.l0]
  rw [decide_eq_true (show SW [] from List.Pairwise.nil)]
  exact Ev.neg (by simp [wrap64]) (Ev.pure _)
 ·have e : wrap64 ((l.length : Int) - 1) = ((l.length - 1 : Nat) : Int) := by unfold wrap64; omega
  rw [e, ← decide_eq_decide.2 (adj_SW l)]
  exact sorted_l0 l hl (l.length - 1) (by omega)
def isTrieW (l : List IN) : Bool :=
 match prefixesW l with
 | none => false
 | some ps => if ps.any longW then false else
  decide ((wordsW l ps).length ≤ 40) && (decide (SW (wordsW l ps)) && decide (trieW (wordsW l ps) = l))
theorem wordsW_mem : ∀ {l : List IN} {ps : List ByteArray} {x : ByteArray}, x ∈ wordsW l ps → x ∈ ps
 | [], ps, x, h => by simp [wordsW] at h
 | n :: l, [], x, h => by simp [wordsW] at h
 | n :: l, p :: ps, x, h => by
  simp only [wordsW] at h
  split at h
  ·rcases List.mem_cons.1 h with rfl | h
   ·exact List.mem_cons_self
   ·exact List.mem_cons_of_mem _ (wordsW_mem h)
  ·exact List.mem_cons_of_mem _ (wordsW_mem h)
theorem allPfx_len : ∀ (ws : List ByteArray), (∀ w ∈ ws, w.size ≤ 12) → (allPfx ws).length ≤ 1 + 12 * ws.length := by
 intro ws h
 unfold allPfx
 rw [List.length_cons]
 have : (ws.flatMap fun w => pfx w w.size).length ≤ 12 * ws.length := by
  induction ws with
  | nil => simp
  | cons w ws ih =>
   rw [List.flatMap_cons, List.length_append, List.length_cons]
   have h1 := ih (fun x hx => h x (List.mem_cons_of_mem _ hx))
   have h2 := h w List.mem_cons_self
   have h3 : (pfx w w.size).length = w.size := by simp [pfx]
   omega
 omega
theorem okTrieOf_of {ws : List ByteArray} (h12 : ∀ w ∈ ws, w.size ≤ 12) (h40 : ws.length ≤ 1000000) (hs : SW ws) : impl_trieOf.f ws = some (trieW ws) := by
 unfold impl_trieOf.f okTrieOf
 have := allPfx_len ws h12
 rw [if_pos]
 simp only [Bool.and_eq_true, decide_eq_true_eq]
 exact ⟨⟨by omega, by omega⟩, hs⟩
theorem prefW_le (ws : List ByteArray) (h : ∀ w ∈ ws, w.size ≤ 12) : (prefW ws).length ≤ 1 + 12 * ws.length := Nat.le_trans (prefW_len ws) (allPfx_len ws h)
theorem trieW_length (ws : List ByteArray) : (trieW ws).length = (prefW ws).length := List.length_map _
theorem isTrie_ev (l : List IN) : Ev (fun k => impl_isTrie.f k l) (isTrieW l) := by
 unfold impl_isTrie.f isTrieW
 refine Ev.bind (prefixes_ev l) ?_
 cases hp : prefixesW l with
 | none =>
  simp only [resP]
  refine Ev.neg (by decide) (Ev.succ ?_)
  simp only [impl_isTrie.j0]
  exact Ev.pos trivial (Ev.pure _)
 | some ps =>
  simp only [resP]
  have hl := prefixesW_length hp
  refine Ev.pos trivial (Ev.bindc (t := ps.any longW) (by unfold slices_ContainsFunc_string_string_impl_isTrie_1.f; rw [if_pos (by omega)]) (Ev.succ ?_))
  simp only [impl_isTrie.j0]
  by_cases h12 : ps.any longW = true
  ·rw [if_pos h12]
   exact Ev.pos h12 (Ev.pure _)
  ·rw [if_neg h12]
   refine Ev.neg h12 (Ev.bind (words_ev l ps hp) ?_)
   have hsz : ∀ w ∈ wordsW l ps, w.size ≤ 12 := fun w hw => by
    have h1 : ¬ longW w = true := fun h2 => h12 (List.any_eq_true.2 ⟨w, wordsW_mem hw, h2⟩)
    simp [longW] at h1
    omega
   by_cases h40 : (wordsW l ps).length ≤ 40
   ·rw [decide_eq_true h40, Bool.true_and]
    refine Ev.pos (by omega) (Ev.bind (sorted_ev _ (by omega)) ?_)
    by_cases hs : SW (wordsW l ps)
    ·rw [decide_eq_true hs, Bool.true_and]
     have hle := prefW_le _ hsz
     refine Ev.pos rfl (Ev.bindc (okTrieOf_of hsz (by omega) hs) (Ev.bind (node_ev _ _ (by rw [trieW_length]; omega)) (Ev.pure _)))
    ·rw [decide_eq_false hs, Bool.false_and]
     exact Ev.neg (by decide) (Ev.pure _)
   ·rw [decide_eq_false h40, Bool.false_and]
    exact Ev.neg (by omega) (Ev.pure _)
end Go.Proofs.YtefcbnlljpdjnaaDoor.Q
namespace Go.Proofs.YtefcbnlljpdjnaaDoor.Q
open Go.RowKit Go.Proofs.YtefcbnlljpdjnaaDoorW.PrintWords Go.Proofs.YtefcbnlljpdjnaaDoorW.PrintLast
def letters (w : ByteArray) : Prop := ∀ x ∈ lw w, 97 ≤ x.toNat ∧ x.toNat ≤ 122
def okWord (w : ByteArray) : Prop := w.size ≤ 12 ∧ letters w
structure VW (ws : List ByteArray) : Prop where
  ss : SS ws
  ok : ∀ w ∈ ws, okWord w
  len : ws.length ≤ 40
def V (l : List IN) : Prop := ∃ ws, VW ws ∧ l = trieW ws
theorem letters_empty : letters ByteArray.empty := fun x hx => by cases hx
theorem letters_cut {w : ByteArray} (h : letters w) (n : Nat) : letters (w.extract 0 n) := fun x hx => by
 rw [lw_extract] at hx
 exact h x (List.mem_of_mem_take hx)
theorem prefW_ok {ws : List ByteArray} (h : ∀ w ∈ ws, okWord w) {p : ByteArray} (hp : p ∈ prefW ws) : okWord p := by
 rcases mem_prefW.1 hp with rfl | ⟨w, hw, j, hj, rfl⟩
 ·exact ⟨Nat.zero_le _, letters_empty⟩
 ·have := (h w hw).1
  exact ⟨by rw [ext_size _ _ (by omega)]; omega, letters_cut (h w hw).2 _⟩
theorem prefW_pos (ws : List ByteArray) : 0 < (prefW ws).length := List.length_pos_of_mem (mem_prefW.2 (.inl rfl))
theorem prefW_zero (ws : List ByteArray) : rdOf ByteArray.empty (prefW ws) 0 = ByteArray.empty := by
 obtain ⟨k, hk, e⟩ := List.getElem_of_mem (mem_prefW.2 (.inl rfl) : ByteArray.empty ∈ prefW ws)
 by_cases h0 : k = 0
 ·subst h0
  have := rd_nat (prefW ws) hk
  exact this.trans e
 ·have h1 := ss_at (prefW_ss ws) (show 0 < k by omega) hk
  rw [rd_nat _ hk, e] at h1
  exact absurd h1 (List.not_lt_nil _)
theorem prefW_nonzero (ws : List ByteArray) {k : Nat} (h0 : 0 < k) (hk : k < (prefW ws).length) : (rdOf ByteArray.empty (prefW ws) (k : Int)).size ≠ 0 := fun e => by
 have h1 := ss_at (prefW_ss ws) h0 hk
 have h2 : lw (rdOf ByteArray.empty (prefW ws) (k : Int)) = [] := List.eq_nil_of_length_eq_zero (by rw [lw_length]; exact e)
 rw [h2] at h1
 exact absurd h1 (List.not_lt_nil _)
theorem lw_app (a b : ByteArray) : lw (a ++ b) = lw a ++ lw b := by simp [lw]
theorem lw_letterW (n : Int) (h0 : 0 ≤ n) (h1 : n ≤ 25) : lw (letterW n) = [UInt8.ofNat (97 + n.toNat)] := by
 have e : (wrap64 (97 + n)) % 256 = ((97 + n.toNat : Nat) : Int) := by unfold wrap64; omega
 unfold letterW
 rw [e]
 rfl
theorem cut_last {p : ByteArray} (h : letters p) (h0 : p.size ≠ 0) : 0 ≤ (bt p ((p.size : Int) - 1) + 159) % 256 ∧ (bt p ((p.size : Int) - 1) + 159) % 256 ≤ 25 ∧ p.extract 0 (p.size - 1) ++ letterW ((bt p ((p.size : Int) - 1) + 159) % 256) = p := by
 have e : ((p.size : Int) - 1).toNat = p.size - 1 := by omega
 have hlt : p.size - 1 < p.size := by omega
 have hl : p.size - 1 < (lw p).length := by rw [lw_length]; omega
 have hb : bt p ((p.size : Int) - 1) = ((p[p.size - 1]'hlt).toNat : Int) := by simp [bt, e, hlt]
 have hx : (lw p)[p.size - 1]'hl = p[p.size - 1]'hlt := rfl
 have hr := h _ (List.getElem_mem hl)
 rw [hx] at hr
 rw [hb]
 have h1 : (((p[p.size - 1]'hlt).toNat : Int) + 159) % 256 = ((p[p.size - 1]'hlt).toNat : Int) - 97 := by omega
 rw [h1]
 refine ⟨by omega, by omega, lw_inj ?_⟩
 rw [lw_app, lw_extract, lw_letterW _ (by omega) (by omega)]
 have h2 : (97 + (((p[p.size - 1]'hlt).toNat : Int) - 97).toNat) = (p[p.size - 1]'hlt).toNat := by omega
 rw [h2, UInt8.ofNat_toNat, ← hx]
 have h3 := List.take_append_getElem hl
 rw [h3]
 exact List.take_of_length_le (by rw [lw_length]; omega)
theorem trieW_at (ws : List ByteArray) {i : Nat} (hi : i < (prefW ws).length) : (trieW ws)[i]'(by rw [trieW_length]; exact hi) = nodeW (prefW ws) ws (rdOf ByteArray.empty (prefW ws) (i : Int)) := by
 rw [rd_nat _ hi]
 simp [trieW]
theorem node_at (ws : List ByteArray) (ho : ∀ w ∈ ws, okWord w) {i : Nat} (h0 : 0 < i) (hi : i < (prefW ws).length) : ∃ j, j < i ∧ rdOf ByteArray.empty (prefW ws) (j : Int) = (rdOf ByteArray.empty (prefW ws) (i : Int)).extract 0 ((rdOf ByteArray.empty (prefW ws) (i : Int)).size - 1) ∧
  (nodeW (prefW ws) ws (rdOf ByteArray.empty (prefW ws) (i : Int))).f1 = (j : Int) ∧ 0 ≤ (nodeW (prefW ws) ws (rdOf ByteArray.empty (prefW ws) (i : Int))).f0 ∧ (nodeW (prefW ws) ws (rdOf ByteArray.empty (prefW ws) (i : Int))).f0 ≤ 25 ∧
  rdOf ByteArray.empty (prefW ws) (j : Int) ++ letterW (nodeW (prefW ws) ws (rdOf ByteArray.empty (prefW ws) (i : Int))).f0 = rdOf ByteArray.empty (prefW ws) (i : Int) := by
 have hz := prefW_nonzero ws h0 hi
 obtain ⟨p, hp⟩ : ∃ p, p = rdOf ByteArray.empty (prefW ws) (i : Int) := ⟨_, rfl⟩
 rw [← hp] at hz ⊢
 obtain ⟨j, hj, e1, e2⟩ := cut_idx hi hp hz
 have hm : p ∈ prefW ws := by rw [hp, rd_nat _ hi]; exact List.getElem_mem hi
 obtain ⟨a1, a2, a3⟩ := cut_last (prefW_ok ho hm).2 hz
 refine ⟨j, hj, e1, ?_, ?_, ?_, ?_⟩
 ·unfold nodeW; rw [if_neg hz]; exact congrArg Nat.cast e2
 ·unfold nodeW; rw [if_neg hz]; exact a1
 ·unfold nodeW; rw [if_neg hz]; exact a2
 ·unfold nodeW; rw [if_neg hz, e1]; exact a3
theorem prefsW_trie (ws : List ByteArray) (ho : ∀ w ∈ ws, okWord w) : ∀ (n i : Nat), 0 < i → i + n = (prefW ws).length → prefsW ((prefW ws).take i) ((trieW ws).drop i) = some (prefW ws) := by
 intro n
 induction n with
 | zero =>
  intro i _ h
  rw [List.take_of_length_le (by omega), List.drop_of_length_le (by rw [trieW_length]; omega)]
  rfl
 | succ n ih =>
  intro i h0 h
  have hi : i < (prefW ws).length := by omega
  have hi2 : i < (trieW ws).length := by rw [trieW_length]; exact hi
  rw [List.drop_eq_getElem_cons hi2, trieW_at ws hi]
  obtain ⟨j, hj, _, e1, e2, e3, e4⟩ := node_at ws ho h0 hi
  simp only [prefsW]
  have hl : ((prefW ws).take i).length = i := by rw [List.length_take]; omega
  rw [e1, hl, if_pos ⟨by omega, by omega, e2, e3⟩]
  have hr : rdOf ByteArray.empty ((prefW ws).take i) (j : Int) = rdOf ByteArray.empty (prefW ws) (j : Int) := by
   rw [rd_nat _ (by omega), rd_nat _ (by omega), List.getElem_take]
  rw [hr, e4, ← take_rd _ _ hi]
  exact ih (i + 1) (by omega) (by omega)
theorem prefixesW_trie {ws : List ByteArray} (h : VW ws) : prefixesW (trieW ws) = some (prefW ws) := by
 have h1 := prefW_pos ws
 have h2 := prefW_le ws (fun w hw => (h.ok w hw).1)
 have h3 := h.len
 unfold prefixesW
 rw [if_pos (by rw [trieW_length]; omega)]
 have e : (prefW ws).take 1 = [ByteArray.empty] := by
  rw [take_rd _ 0 h1]
  show [] ++ [rdOf ByteArray.empty (prefW ws) 0] = _
  rw [prefW_zero]; rfl
 have := prefsW_trie ws h.ok ((prefW ws).length - 1) 1 (by omega) (by omega)
 rwa [e] at this
theorem hasW_map (ws : List ByteArray) (ps qs : List ByteArray) : wordsW (qs.map (nodeW ps ws)) qs = qs.filter fun p => hasW ws p := by
 induction qs with
 | nil => rfl
 | cons q qs ih =>
  have e : (nodeW ps ws q).f2 = hasW ws q := by unfold nodeW; split <;> rfl
  simp only [List.map_cons, wordsW, e, ih, List.filter_cons]
theorem mem_prefW_self {ws : List ByteArray} {w : ByteArray} (h : w ∈ ws) : w ∈ prefW ws := by
 by_cases h0 : w.size = 0
 ·have : w = ByteArray.empty := lw_inj (List.eq_nil_of_length_eq_zero (by rw [lw_length]; exact h0))
  exact mem_prefW.2 (.inl this)
 ·exact mem_prefW.2 (.inr ⟨w, h, w.size - 1, by omega, by rw [show w.size - 1 + 1 = w.size by omega, ext_all]⟩)
theorem filter_ws {ws : List ByteArray} (h : SS ws) : ((prefW ws).filter fun p => hasW ws p) = ws := by
 refine ss_ext ((prefW_ss ws).filter _) h (fun x => ?_)
 rw [List.mem_filter, hasW_iff]
 exact ⟨fun h => h.2, fun h => ⟨mem_prefW_self h, h⟩⟩
theorem wordsW_trie {ws : List ByteArray} (h : SS ws) : wordsW (trieW ws) (prefW ws) = ws := by
 unfold trieW
 rw [hasW_map, filter_ws h]
theorem prefW_set (ws : List ByteArray) : prefW (setW ws) = prefW ws := by
 refine ss_ext (prefW_ss _) (prefW_ss _) (fun x => ?_)
 rw [mem_prefW, mem_prefW]
 refine or_congr Iff.rfl ⟨?_, ?_⟩
 ·rintro ⟨w, hw, r⟩; exact ⟨w, mem_setW.1 hw, r⟩
 ·rintro ⟨w, hw, r⟩; exact ⟨w, mem_setW.2 hw, r⟩
theorem hasW_set (ws : List ByteArray) (x : ByteArray) : hasW (setW ws) x = hasW ws x := by
 rw [Bool.eq_iff_iff, hasW_iff, hasW_iff, mem_setW]
theorem trieW_set (ws : List ByteArray) : trieW (setW ws) = trieW ws := by
 unfold trieW
 rw [prefW_set]
 refine List.map_congr_left fun p _ => ?_
 unfold nodeW
 simp only [hasW_set]
theorem prefsW_letters : ∀ {l : List IN} {ps r : List ByteArray}, (∀ p ∈ ps, letters p) → prefsW ps l = some r → ∀ p ∈ r, letters p
 | [], ps, r, hp, h => by
  simp only [prefsW] at h
  injection h with h
  subst h; exact hp
 | n :: l, ps, r, hp, h => by
  simp only [prefsW] at h
  split at h
  ·rename_i hc
   refine prefsW_letters (fun p hm => ?_) h
   rcases List.mem_append.1 hm with hm | hm
   ·exact hp p hm
   ·rw [List.mem_singleton.1 hm]
    intro x hx
    rw [lw_app] at hx
    rcases List.mem_append.1 hx with hx | hx
    ·exact hp _ (at_mem hc.1 hc.2.1) x hx
    ·rw [lw_letterW _ hc.2.2.1 hc.2.2.2] at hx
     rw [List.mem_singleton.1 hx, UInt8.toNat_ofNat_of_lt' (by have := hc.2.2; have hz : UInt8.size = 256 := rfl; omega)]
     have := hc.2.2
     omega
  ·cases h
theorem isTrieW_iff (l : List IN) : isTrieW l = true ↔ V l := by
 constructor
 ·intro h
  unfold isTrieW at h
  cases hp : prefixesW l with
  | none => rw [hp] at h; cases h
  | some ps =>
   rw [hp] at h
   simp only at h
   split at h
   ·cases h
   ·rename_i h12
    simp only [Bool.and_eq_true, decide_eq_true_eq] at h
    obtain ⟨h40, _, hl⟩ := h
    refine ⟨setW (wordsW l ps), ⟨setW_ss _, fun w hw => ?_, Nat.le_trans (setW_len _) h40⟩, by rw [trieW_set]; exact hl.symm⟩
    have hm := wordsW_mem (mem_setW.1 hw)
    refine ⟨?_, ?_⟩
    ·have h1 : ¬ longW w = true := fun h2 => h12 (List.any_eq_true.2 ⟨w, hm, h2⟩)
     simp [longW] at h1
     omega
    ·unfold prefixesW at hp
     split at hp
     ·exact prefsW_letters (fun p hp => by rw [List.mem_singleton.1 hp]; exact letters_empty) hp w hm
     ·cases hp
 ·rintro ⟨ws, h, rfl⟩
  unfold isTrieW
  rw [prefixesW_trie h]
  simp only
  have h1 : ¬ (prefW ws).any longW = true := fun hf => by
   obtain ⟨p, hp, hl⟩ := List.any_eq_true.1 hf
   have := (prefW_ok h.ok hp).1
   simp [longW] at hl
   omega
  rw [if_neg h1, wordsW_trie h.ss]
  simp only [Bool.and_eq_true, decide_eq_true_eq]
  exact ⟨h.len, h.ss.imp (fun h => List.le_of_lt h), trivial⟩
end Go.Proofs.YtefcbnlljpdjnaaDoor.Q
namespace Go.Proofs.YtefcbnlljpdjnaaDoor.Q
open Go.RowKit Go.Proofs.YtefcbnlljpdjnaaDoorW.PrintWords Go.Proofs.YtefcbnlljpdjnaaDoorW.PrintLast
theorem l1In_eq (a b c : Int) : spec_l1In.f a b c = some (decide (b ≤ a ∧ a ≤ c)) := by
 unfold spec_l1In.f
 by_cases h : b ≤ a
 ·rw [if_pos h]; congr 1; exact decide_eq_decide.2 (by omega)
 ·rw [if_neg (by omega)]; congr 1; exact (decide_eq_false (by omega)).symm
theorem bt_nat (a : ByteArray) (i : Nat) (h : i < (lw a).length) : bt a (i : Int) = (((lw a)[i]'h).toNat : Int) := by
 have h2 : i < a.size := by rw [← lw_length]; exact h
 have : ((i : Int)).toNat < a.size := by simpa using h2
 rw [← bt_at a (i : Int) this]
 rfl
theorem lt_drop : ∀ (i : Nat) (x y : Ws), x.take i = y.take i → (x < y ↔ x.drop i < y.drop i)
 | 0, x, y, _ => Iff.rfl
 | i + 1, [], [], _ => Iff.rfl
 | i + 1, [], b :: y, h => by simp at h
 | i + 1, a :: x, [], h => by simp at h
 | i + 1, a :: x, b :: y, h => by
  simp only [List.take_succ_cons, List.cons.injEq] at h
  obtain ⟨rfl, h⟩ := h
  rw [List.cons_lt_cons_self, List.drop_succ_cons, List.drop_succ_cons]
  exact lt_drop i x y h
theorem before_l0 (a b : ByteArray) (ha : a.size ≤ 4294967296) : ∀ (n i : Nat), i + n = a.size → i ≤ b.size → (lw a).take i = (lw b).take i → Ev (fun k => spec_l2Before.l0 k a b (i : Int)) (decide (lw a < lw b)) := by
 intro n
 induction n with
 | zero =>
  intro i h hib he
  refine Ev.succ ?_
  simp only [spec_l2Before.l0]
  refine Ev.neg (by omega) (Ev.succ ?_)
  simp only [spec_l2Before.j1]
  refine Ev.neg (by decide) ?_
  have e : decide ((a.size : Int) < (b.size : Int)) = decide (lw a < lw b) := by
   refine decide_eq_decide.2 ?_
   rw [lt_drop i _ _ he, List.drop_of_length_le (by rw [lw_length]; omega)]
   constructor
   ·intro hq
    have hib2 : i < (lw b).length := by rw [lw_length]; omega
    rw [List.drop_eq_getElem_cons hib2]
    exact List.nil_lt_cons _ _
   ·intro hq
    have : (lw b).drop i ≠ [] := fun hn => by rw [hn] at hq; exact absurd hq (List.not_lt_nil _)
    have h2 : ¬ (lw b).length ≤ i := fun hn => this (List.drop_of_length_le hn)
    rw [lw_length] at h2
    omega
  rw [e]
  exact Ev.pure _
 | succ n ih =>
  intro i h hib he
  refine Ev.succ ?_
  simp only [spec_l2Before.l0]
  have hia : i < (lw a).length := by rw [lw_length]; omega
  refine Ev.pos (by omega) (Ev.succ ?_)
  simp only [spec_l2Before.j1]
  by_cases hib2 : i < b.size
  ·have hbl : i < (lw b).length := by rw [lw_length]; omega
   simp only [bt_nat a i hia, bt_nat b i hbl]
   refine Ev.pos (by simpa using hib2) (Ev.pos (by omega) (Ev.pos (by omega) (Ev.pos (by omega) ?_)))
   by_cases e : (lw a)[i] = (lw b)[i]
   ·refine Ev.pos (by rw [e]) ?_
    rw [wnext i (by omega)]
    refine ih (i + 1) (by omega) (by omega) ?_
    rw [List.take_succ_eq_append_getElem hia, List.take_succ_eq_append_getElem hbl, he, e]
   ·have hne : ¬ (((lw a)[i]).toNat : Int) = (((lw b)[i]).toNat : Int) := fun hq => e (UInt8.toNat.inj (by omega))
    refine Ev.neg hne ?_
    have e2 : decide ((((lw a)[i]).toNat : Int) < (((lw b)[i]).toNat : Int)) = decide (lw a < lw b) := by
     refine decide_eq_decide.2 ?_
     rw [lt_drop i _ _ he, List.drop_eq_getElem_cons hia, List.drop_eq_getElem_cons hbl, List.cons_lt_cons_iff]
     constructor
     ·intro hq; exact .inl (UInt8.lt_iff_toNat_lt.2 (by omega))
     ·rintro (hq | hq)
      ·have := UInt8.lt_iff_toNat_lt.1 hq; omega
      ·exact absurd hq.1 e
    rw [e2]
    exact Ev.pure _
  ·refine Ev.neg (by simpa using hib2) ?_
   have e : decide ((a.size : Int) < (b.size : Int)) = decide (lw a < lw b) := by
    refine decide_eq_decide.2 ?_
    rw [lt_drop i _ _ he, List.drop_of_length_le (show (lw b).length ≤ i by rw [lw_length]; omega)]
    exact ⟨fun hq => absurd hq (by omega), fun hq => absurd hq (List.not_lt_nil _)⟩
   rw [e]
   exact Ev.pure _
theorem before_ev (a b : ByteArray) (ha : a.size ≤ 4294967296) : Ev (fun k => spec_l2Before.f k a b) (decide (lw a < lw b)) := by
 unfold spec_l2Before.f
 exact before_l0 a b ha a.size 0 (by omega) (by omega) rfl
theorem same_l0 (a b : List IN) (hl : a.length ≤ 1048576) : ∀ (n i : Nat), i + n = a.length → i ≤ b.length → a.take i = b.take i → Ev (fun k => spec_l2Same.l0 k (i : Int) a b) (decide (a = b)) := by
 intro n
 induction n with
 | zero =>
  intro i h hi he
  refine Ev.succ ?_
  simp only [spec_l2Same.l0]
  refine Ev.neg (by omega) (Ev.succ ?_)
  simp only [spec_l2Same.j1]
  refine Ev.neg (by decide) ?_
  have e : ((a.length : Int) == (b.length : Int)) = decide (a = b) := by
   rw [Bool.eq_iff_iff, beq_iff_eq, decide_eq_true_iff]
   constructor
   ·intro hq
    rw [List.take_of_length_le (by omega), List.take_of_length_le (by omega)] at he
    exact he
   ·rintro rfl; rfl
  rw [e]
  exact Ev.pure _
 | succ n ih =>
  intro i h hi he
  refine Ev.succ ?_
  simp only [spec_l2Same.l0]
  have hia : i < a.length := by omega
  refine Ev.pos (by omega) (Ev.succ ?_)
  simp only [spec_l2Same.j1]
  by_cases hib : i < b.length
  ·refine Ev.pos (by simpa using hib) (Ev.pos (by omega) (Ev.pos (by omega) (Ev.pos (by omega) ?_)))
   simp only [rd_nat' a i hia, rd_nat' b i hib]
   have hne : ∀ x y : IN, (!(x.f0 == y.f0) || (!(x.f1 == y.f1) || !(x.f2 == y.f2))) = !decide (x = y) := fun x y => by
    obtain ⟨x0, x1, x2⟩ := x
    obtain ⟨y0, y1, y2⟩ := y
    by_cases h0 : x0 = y0 <;> by_cases h1 : x1 = y1 <;> by_cases h2 : x2 = y2 <;> simp [h0, h1, h2]
   rw [hne]
   by_cases e : a[i] = b[i]
   ·refine Ev.neg (by simp [e]) ?_
    rw [wnext i (by omega)]
    refine ih (i + 1) (by omega) (by omega) ?_
    rw [List.take_succ_eq_append_getElem hia, List.take_succ_eq_append_getElem hib, he, e]
   ·refine Ev.pos (by simp [e]) ?_
    rw [decide_eq_false (fun hq => e (by subst hq; rfl))]
    exact Ev.pure _
  ·refine Ev.neg (by simpa using hib) ?_
   have e : ((a.length : Int) == (b.length : Int)) = decide (a = b) := by
    rw [Bool.eq_iff_iff, beq_iff_eq, decide_eq_true_iff]
    constructor
    ·intro hq; omega
    ·rintro rfl; rfl
   rw [e]
   exact Ev.pure _
theorem same_ev (a b : List IN) (hl : a.length ≤ 1048576) : Ev (fun k => spec_l2Same.f k a b) (decide (a = b)) := by
 unfold spec_l2Same.f
 exact same_l0 a b hl a.length 0 (by omega) (by omega) rfl
instance (w : ByteArray) : Decidable (letters w) := inferInstanceAs (Decidable (∀ x ∈ lw w, 97 ≤ x.toNat ∧ x.toNat ≤ 122))
instance (w : ByteArray) : Decidable (okWord w) := inferInstanceAs (Decidable (w.size ≤ 12 ∧ letters w))
theorem word_l0 (a : ByteArray) : ∀ (n i : Nat), i + n = min a.size 13 → (∀ x ∈ (lw a).take i, 97 ≤ x.toNat ∧ x.toNat ≤ 122) → Ev (fun k => spec_l2Word.l0 k a (i : Int)) (decide (okWord a)) := by
 intro n
 induction n with
 | zero =>
  intro i h hx
  refine Ev.succ ?_
  simp only [spec_l2Word.l0]
  have e : decide ((a.size : Int) ≤ 12) = decide (okWord a) := by
   refine decide_eq_decide.2 ⟨fun hs => ⟨by omega, ?_⟩, fun h => by have := h.1; omega⟩
   rw [List.take_of_length_le (by rw [lw_length]; omega)] at hx
   exact hx
  by_cases hs : a.size ≤ 12
  ·refine Ev.neg (by omega) (Ev.succ ?_)
   simp only [spec_l2Word.j1]
   refine Ev.neg (by decide) ?_
   rw [e]
   exact Ev.pure _
  ·have e1 : i = 13 := by omega
   by_cases h13 : 13 < a.size
   ·refine Ev.pos (by omega) (Ev.succ ?_)
    simp only [spec_l2Word.j1]
    refine Ev.neg (by simp; omega) ?_
    rw [e]
    exact Ev.pure _
   ·refine Ev.neg (by omega) (Ev.succ ?_)
    simp only [spec_l2Word.j1]
    refine Ev.neg (by decide) ?_
    rw [e]
    exact Ev.pure _
 | succ n ih =>
  intro i h hx
  refine Ev.succ ?_
  simp only [spec_l2Word.l0]
  have hi : i < (lw a).length := by rw [lw_length]; omega
  refine Ev.pos (by omega) (Ev.succ ?_)
  simp only [spec_l2Word.j1, bt_nat a i hi]
  refine Ev.pos (by simp; omega) (Ev.pos (by omega) (Ev.pos (by omega) ?_))
  have hnot : ¬ (97 ≤ ((lw a)[i]).toNat ∧ ((lw a)[i]).toNat ≤ 122) → decide (okWord a) = false := fun hq => decide_eq_false (fun ho => hq (ho.2 _ (List.getElem_mem hi)))
  by_cases h1 : 97 ≤ ((lw a)[i]).toNat
  ·refine Ev.neg (by omega) ?_
   by_cases h2 : ((lw a)[i]).toNat ≤ 122
   ·refine Ev.neg (by omega) ?_
    rw [wnext i (by omega)]
    refine ih (i + 1) (by omega) (fun x hm => ?_)
    rw [List.take_succ_eq_append_getElem hi] at hm
    rcases List.mem_append.1 hm with hm | hm
    ·exact hx x hm
    ·rw [List.mem_singleton.1 hm]; exact ⟨h1, h2⟩
   ·rw [hnot (by omega)]
    exact Ev.pos (by omega) (Ev.pure _)
  ·rw [hnot (by omega)]
   exact Ev.pos (by omega) (Ev.pure _)
theorem word_ev (a : ByteArray) : Ev (fun k => spec_l2Word.f k a) (decide (okWord a)) := by
 unfold spec_l2Word.f
 exact word_l0 a (min a.size 13) 0 (by omega) (fun x hx => by cases hx)
theorem own_eq (l : List ByteArray) (hl : l.length < 8796093022208) : spec_l2Own.f l = some l := by
 unfold spec_l2Own.f
 simp only [Option.bind_some, List.length_nil, Nat.zero_add, List.nil_append]
 rw [if_pos hl]
theorem ins_ss {l : List ByteArray} {w : ByteArray} {i : Nat} (h : SS l) (h1 : ∀ x ∈ l.take i, lw x < lw w) (h2 : ∀ x ∈ l.drop i, lw w < lw x) : (l.take i ++ [w]) ++ l.drop i = setW (w :: l) := by
 have e : l = l.take i ++ l.drop i := (List.take_append_drop i l).symm
 refine ss_ext ?_ (setW_ss _) (fun x => ?_)
 ·unfold SS at h ⊢
  rw [e, List.pairwise_append] at h
  rw [List.append_assoc, List.pairwise_append]
  refine ⟨h.1, ?_, fun a ha b hb => ?_⟩
  ·rw [List.singleton_append, List.pairwise_cons]
   exact ⟨h2, h.2.1⟩
  ·rcases List.mem_append.1 hb with hb | hb
   ·rw [List.mem_singleton.1 hb]; exact h1 a ha
   ·exact h.2.2 a ha b hb
 ·rw [mem_setW, List.mem_cons]
  constructor
  ·intro hx
   rcases List.mem_append.1 hx with hx | hx
   ·rcases List.mem_append.1 hx with hx | hx
    ·exact .inr (List.mem_of_mem_take hx)
    ·exact .inl (List.mem_singleton.1 hx)
   ·exact .inr (List.mem_of_mem_drop hx)
  ·rintro (rfl | hx)
   ·simp
   ·rw [e] at hx
    rcases List.mem_append.1 hx with hx | hx
    ·exact List.mem_append_left _ (List.mem_append_left _ hx)
    ·exact List.mem_append_right _ hx
theorem put_l0 (l : List ByteArray) (w : ByteArray) (hl : l.length ≤ 4294967296) (hz : ∀ x ∈ l, x.size ≤ 4294967296) (hs : SS l) : ∀ (n i : Nat), i + n = l.length → (∀ x ∈ l.take i, lw x < lw w) → Ev (fun k => spec_l2Put.l0 k l w (i : Int)) (setW (w :: l)) := by
 intro n
 induction n with
 | zero =>
  intro i h h1
  refine Ev.succ ?_
  simp only [spec_l2Put.l0]
  have e1 : (l.take i).length = i := by rw [List.length_take]; omega
  refine Ev.neg (by omega) (Ev.pos (by omega) (Ev.pos (by omega) (Ev.bindc (own_eq _ (by rw [Int.toNat_natCast, e1]; omega)) ?_)))
  simp only [Option.bind_some, Int.toNat_natCast]
  refine Ev.pos (by simp; omega) (Ev.pos (by simp; omega) ?_)
  rw [ins_ss hs h1 (by rw [List.drop_of_length_le (by omega)]; intro x hx; cases hx)]
  exact Ev.pure _
 | succ n ih =>
  intro i h h1
  refine Ev.succ ?_
  simp only [spec_l2Put.l0]
  have hi : i < l.length := by omega
  have e1 : (l.take i).length = i := by rw [List.length_take]; omega
  refine Ev.pos (by omega) (Ev.pos (by omega) ?_)
  simp only [rd_nat l hi]
  refine Ev.bind (before_ev _ _ (hz _ (List.getElem_mem hi))) ?_
  by_cases hb : lw l[i] < lw w
  ·refine Ev.pos (decide_eq_true hb) ?_
   rw [wnext i (by omega)]
   refine ih (i + 1) (by omega) (fun x hx => ?_)
   rw [List.take_succ_eq_append_getElem hi] at hx
   rcases List.mem_append.1 hx with hx | hx
   ·exact h1 x hx
   ·rw [List.mem_singleton.1 hx]; exact hb
  ·refine Ev.neg (fun h2 => hb (of_decide_eq_true h2)) ?_
   by_cases e : l[i] = w
   ·refine Ev.pos ((tl_eq _ _).2 e) ?_
    have e2 : setW (w :: l) = l := ss_ext (setW_ss _) hs (fun x => by
     rw [mem_setW, List.mem_cons]
     exact ⟨fun hx => hx.elim (fun hx => by rw [hx, ← e]; exact List.getElem_mem hi) id, .inr⟩)
    rw [e2]
    exact Ev.pure _
   ·have hgt : lw w < lw l[i] := by
     refine List.not_le.1 (fun hle => ?_)
     exact e (lw_inj (List.le_antisymm hle (List.not_lt.1 hb)))
    refine Ev.neg (fun h2 => e ((tl_eq _ _).1 h2)) (Ev.pos (by omega) (Ev.bindc (own_eq _ (by rw [Int.toNat_natCast, e1]; omega)) ?_))
    simp only [Option.bind_some, Int.toNat_natCast]
    refine Ev.pos (by simp; omega) (Ev.pos (by simp; omega) ?_)
    rw [ins_ss hs h1 (fun x hx => ?_)]
    ·exact Ev.pure _
    ·rw [List.drop_eq_getElem_cons hi] at hx
     rcases List.mem_cons.1 hx with rfl | hx
     ·exact hgt
     ·have := List.pairwise_append.1 ((List.take_append_drop (i + 1) l).symm ▸ hs : SS (l.take (i + 1) ++ l.drop (i + 1)))
      have hm : l[i] ∈ l.take (i + 1) := by
       rw [List.take_succ_eq_append_getElem hi]
       exact List.mem_append_right _ (List.mem_singleton.2 rfl)
      exact List.lt_trans hgt (this.2.2 l[i] hm x hx)
theorem put_ev (l : List ByteArray) (w : ByteArray) (hl : l.length ≤ 4294967296) (hz : ∀ x ∈ l, x.size ≤ 4294967296) (hs : SS l) : Ev (fun k => spec_l2Put.f k l w) (setW (w :: l)) := by
 unfold spec_l2Put.f
 exact put_l0 l w hl hz hs l.length 0 (by omega) (fun x hx => by cases hx)
end Go.Proofs.YtefcbnlljpdjnaaDoor.Q
namespace Go.Proofs.YtefcbnlljpdjnaaDoor.Q
open Go.RowKit Go.Proofs.YtefcbnlljpdjnaaDoorW.PrintWords Go.Proofs.YtefcbnlljpdjnaaDoorW.PrintLast
def setRes (l : List ByteArray) : List ByteArray × Bool := if ∀ w ∈ l, okWord w then (setW l, decide (((setW l).length : Int) ≤ 40)) else ([], false)
theorem setW_cons_set (w : ByteArray) (l : List ByteArray) : setW (w :: setW l) = setW (l ++ [w]) := ss_ext (setW_ss _) (setW_ss _) (fun x => by
 rw [mem_setW, mem_setW, List.mem_cons, mem_setW, List.mem_append, List.mem_singleton]
 exact or_comm)
theorem set_l0 (l : List ByteArray) (hl : l.length ≤ 4294967296) : ∀ (n i : Nat), i + n = l.length → (∀ w ∈ l.take i, okWord w) → Ev (fun k => spec_l2Set.l0 k l (setW (l.take i)) (i : Int)) (setRes l) := by
 intro n
 induction n with
 | zero =>
  intro i h ho
  refine Ev.succ ?_
  simp only [spec_l2Set.l0]
  rw [List.take_of_length_le (by omega)] at ho ⊢
  unfold setRes
  rw [if_pos ho]
  exact Ev.neg (by omega) (Ev.pure _)
 | succ n ih =>
  intro i h ho
  refine Ev.succ ?_
  simp only [spec_l2Set.l0]
  have hi : i < l.length := by omega
  refine Ev.pos (by omega) (Ev.pos (by omega) ?_)
  simp only [rd_nat l hi]
  refine Ev.bind (word_ev _) ?_
  by_cases hw : okWord l[i]
  ·have h1 := setW_len (l.take i)
   rw [List.length_take] at h1
   refine Ev.pos (decide_eq_true hw) (Ev.bind (put_ev _ _ (by omega) (fun x hx => by have := (ho x (mem_setW.1 hx)).1; omega) (setW_ss _)) ?_)
   rw [wnext i (by omega), setW_cons_set, ← List.take_succ_eq_append_getElem hi]
   refine ih (i + 1) (by omega) (fun w hm => ?_)
   rw [List.take_succ_eq_append_getElem hi] at hm
   rcases List.mem_append.1 hm with hm | hm
   ·exact ho w hm
   ·rw [List.mem_singleton.1 hm]; exact hw
  ·refine Ev.neg (fun h2 => hw (of_decide_eq_true h2)) ?_
   unfold setRes
   rw [if_neg (fun hf => hw (hf _ (List.getElem_mem hi)))]
   exact Ev.pure _
theorem set_ev (l : List ByteArray) (hl : l.length ≤ 4294967296) : Ev (fun k => spec_l2Set.f k l) (setRes l) := by
 unfold spec_l2Set.f
 have e : setW (l.take 0) = [] := List.eq_nil_of_length_eq_zero (Nat.le_zero.1 (setW_len _))
 have := set_l0 l hl l.length 0 (by omega) (fun w hw => by cases hw)
 rw [e] at this
 exact this
theorem has_l0 (l : List ByteArray) (x : ByteArray) (hl : l.length ≤ 4294967296) : ∀ (n i : Nat), i + n = l.length → (∀ y ∈ l.take i, y ≠ x) → Ev (fun k => spec_l2Has.l0 k l x (i : Int)) (hasW l x) := by
 intro n
 induction n with
 | zero =>
  intro i h ho
  refine Ev.succ ?_
  simp only [spec_l2Has.l0]
  rw [List.take_of_length_le (by omega)] at ho
  have e : hasW l x = false := by
   rw [Bool.eq_false_iff]
   intro hf
   exact ho x ((hasW_iff l x).1 hf) rfl
  rw [e]
  exact Ev.neg (by omega) (Ev.pure _)
 | succ n ih =>
  intro i h ho
  refine Ev.succ ?_
  simp only [spec_l2Has.l0]
  have hi : i < l.length := by omega
  refine Ev.pos (by omega) (Ev.pos (by omega) ?_)
  simp only [rd_nat l hi]
  by_cases e : l[i] = x
  ·have e2 : hasW l x = true := (hasW_iff l x).2 (e ▸ List.getElem_mem hi)
   rw [e2]
   exact Ev.pos ((tl_eq _ _).2 e) (Ev.pure _)
  ·refine Ev.neg (fun h2 => e ((tl_eq _ _).1 h2)) ?_
   rw [wnext i (by omega)]
   refine ih (i + 1) (by omega) (fun y hm => ?_)
   rw [List.take_succ_eq_append_getElem hi] at hm
   rcases List.mem_append.1 hm with hm | hm
   ·exact ho y hm
   ·rw [List.mem_singleton.1 hm]; exact e
theorem has_ev (l : List ByteArray) (x : ByteArray) (hl : l.length ≤ 4294967296) : Ev (fun k => spec_l2Has.f k l x) (hasW l x) := by
 unfold spec_l2Has.f
 exact has_l0 l x hl l.length 0 (by omega) (fun w hw => by cases hw)
def placeW (l : List ByteArray) (x : ByteArray) : Int := if hasW l x = true then (l.findIdx (fun y => decide (y = x)) : Int) else -1
theorem place_l0 (l : List ByteArray) (x : ByteArray) (hl : l.length ≤ 4294967296) : ∀ (n i : Nat), i + n = l.length → (∀ y ∈ l.take i, y ≠ x) → Ev (fun k => spec_l2Place.l0 k l x (i : Int)) (placeW l x) := by
 intro n
 induction n with
 | zero =>
  intro i h ho
  refine Ev.succ ?_
  simp only [spec_l2Place.l0]
  rw [List.take_of_length_le (by omega)] at ho
  unfold placeW
  rw [if_neg (fun hf => ho x ((hasW_iff l x).1 hf) rfl)]
  exact Ev.neg (by omega) (Ev.pure _)
 | succ n ih =>
  intro i h ho
  refine Ev.succ ?_
  simp only [spec_l2Place.l0]
  have hi : i < l.length := by omega
  refine Ev.pos (by omega) (Ev.pos (by omega) ?_)
  simp only [rd_nat l hi]
  by_cases e : l[i] = x
  ·have e3 : l.findIdx (fun y => decide (y = x)) = i := by
    refine (List.findIdx_eq hi).2 ⟨by simp [e], fun j hj => ?_⟩
    have : l[j] ∈ l.take i := List.mem_take_iff_getElem.2 ⟨j, by omega, rfl⟩
    exact decide_eq_false (ho _ this)
   unfold placeW
   rw [if_pos ((hasW_iff l x).2 (e ▸ List.getElem_mem hi)), e3]
   exact Ev.pos ((tl_eq _ _).2 e) (Ev.pure _)
  ·refine Ev.neg (fun h2 => e ((tl_eq _ _).1 h2)) ?_
   rw [wnext i (by omega)]
   refine ih (i + 1) (by omega) (fun y hm => ?_)
   rw [List.take_succ_eq_append_getElem hi] at hm
   rcases List.mem_append.1 hm with hm | hm
   ·exact ho y hm
   ·rw [List.mem_singleton.1 hm]; exact e
theorem place_ev (l : List ByteArray) (x : ByteArray) (hl : l.length ≤ 4294967296) : Ev (fun k => spec_l2Place.f k l x) (placeW l x) := by
 unfold spec_l2Place.f
 exact place_l0 l x hl l.length 0 (by omega) (fun w hw => by cases hw)
theorem of_l2 (ws : List ByteArray) (ho : ∀ w ∈ ws, okWord w) (hl : ws.length ≤ 1000000) : ∀ (n i : Nat), i + n = (prefW ws).length → Ev (fun k => spec_l2Of.l2 k ws (prefW ws) (i : Int) ((trieW ws).take i)) (trieW ws) := by
 have hle := prefW_le ws (fun w hw => (ho w hw).1)
 intro n
 induction n with
 | zero =>
  intro i h
  refine Ev.succ ?_
  simp only [spec_l2Of.l2]
  rw [List.take_of_length_le (by rw [trieW_length]; omega)]
  exact Ev.neg (by omega) (Ev.pure _)
 | succ n ih =>
  intro i h
  refine Ev.succ ?_
  simp only [spec_l2Of.l2]
  have hi : i < (prefW ws).length := by omega
  have hi2 : i < (trieW ws).length := by rw [trieW_length]; exact hi
  have hlt : ((trieW ws).take i).length = i := by rw [List.length_take]; omega
  refine Ev.pos (by omega) (Ev.pos (by omega) (Ev.bind (has_ev ws _ (by omega)) ?_))
  have hq := ih (i + 1) (by omega)
  rw [List.take_succ_eq_append_getElem hi2, trieW_at ws hi] at hq
  obtain ⟨p, hp⟩ : ∃ p, p = rdOf ByteArray.empty (prefW ws) (i : Int) := ⟨_, rfl⟩
  rw [← hp] at hq ⊢
  have hm : p ∈ prefW ws := by rw [hp, rd_nat _ hi]; exact List.getElem_mem hi
  have hsz := (prefW_ok ho hm).1
  by_cases h0 : 0 < i
  ·have hz := prefW_nonzero ws h0 hi
   rw [← hp] at hz
   have e1 : wrap64 ((p.size : Int) - 1) = ((p.size - 1 : Nat) : Int) := by unfold wrap64; omega
   rw [e1]
   refine Ev.pos (by omega) (Ev.pos (by omega) (Ev.pos (by omega) (Ev.pos (by omega) (Ev.bind (place_ev _ _ (by omega)) (Ev.pos (by omega) ?_)))))
   rw [wnext i (by omega)]
   have e2 : (⟨(bt p ((p.size - 1 : Nat) : Int) - 97) % 256, placeW (prefW ws) (p.extract 0 (((p.size - 1 : Nat) : Int)).toNat), hasW ws p⟩ : IN) = nodeW (prefW ws) ws p := by
    unfold nodeW placeW
    rw [if_neg hz, Int.toNat_natCast, if_pos ((hasW_iff _ _).2 (prefW_closed hm))]
    have e3 : ((p.size - 1 : Nat) : Int) = (p.size : Int) - 1 := by omega
    rw [e3]
    congr 1
    omega
   rw [e2]
   exact hq
  ·have hi0 : i = 0 := by omega
   have hz : p.size = 0 := by
    rw [hp, hi0]
    have := prefW_zero ws
    rw [show ((0 : Nat) : Int) = 0 from rfl, this]; rfl
   rw [node_root hz] at hq
   refine Ev.neg (by omega) (Ev.pos (by omega) ?_)
   rw [wnext i (by omega)]
   exact hq
theorem pfx_le (w : ByteArray) (n : Nat) (x : ByteArray) (h : x ∈ pfx w n) : x.size ≤ w.size := by
 obtain ⟨j, _, rfl⟩ := List.mem_map.1 h
 rw [ByteArray.size_extract]; omega
theorem allPfx_size {ws : List ByteArray} (ho : ∀ w ∈ ws, okWord w) {x : ByteArray} (h : x ∈ allPfx ws) : x.size ≤ 12 := by
 unfold allPfx at h
 rcases List.mem_cons.1 h with rfl | h
 ·exact Nat.zero_le _
 ·obtain ⟨w, hw, hx⟩ := List.mem_flatMap.1 h
  exact Nat.le_trans (pfx_le w _ x hx) (ho w hw).1
theorem of_l0 (ws : List ByteArray) (ho : ∀ w ∈ ws, okWord w) (hl : ws.length ≤ 1000000) : ∀ (n i : Nat), i + n = ws.length → Ev (fun k => spec_l2Of.l0 k ws (setW (allPfx (ws.take i))) (i : Int)) (trieW ws) := by
 intro n
 induction n with
 | zero =>
  intro i h
  refine Ev.succ ?_
  simp only [spec_l2Of.l0]
  rw [List.take_of_length_le (by omega)]
  refine Ev.neg (by omega) ?_
  have := of_l2 ws ho hl (prefW ws).length 0 (by omega)
  exact this
 | succ n ih =>
  intro i h
  have hi : i < ws.length := by omega
  have hok := ho _ (List.getElem_mem hi)
  refine Ev.succ ?_
  simp only [spec_l2Of.l0]
  refine Ev.pos (by omega) ?_
  have hot : ∀ w ∈ ws.take i, okWord w := fun w hw => ho w (List.mem_of_mem_take hw)
  have hal := allPfx_len (ws.take i) (fun w hw => (hot w hw).1)
  rw [List.length_take] at hal
  have key : ∀ (m j : Nat), j + m = ws[i].size → Ev (fun k => spec_l2Of.l1 k ws (setW (allPfx (ws.take i) ++ pfx ws[i] j)) (i : Int) ((j : Int) + 1)) (trieW ws) := by
   intro m
   induction m with
   | zero =>
    intro j hj
    refine Ev.succ ?_
    simp only [spec_l2Of.l1, rd_nat ws hi]
    refine Ev.pos (by omega) (Ev.pos (by omega) (Ev.neg (by omega) ?_))
    rw [wnext i (by omega)]
    have hq := ih (i + 1) (by omega)
    rw [allPfx_take ws i hi, rd_nat ws hi] at hq
    have : j = ws[i].size := by omega
    rw [this]
    exact hq
   | succ m ihm =>
    intro j hj
    refine Ev.succ ?_
    simp only [spec_l2Of.l1, rd_nat ws hi]
    have h12 := hok.1
    have hln := setW_len (allPfx (ws.take i) ++ pfx ws[i] j)
    rw [List.length_append, pfx_length] at hln
    refine Ev.pos (by omega) (Ev.pos (by omega) (Ev.pos (by omega) (Ev.pos (by omega) (Ev.bind (put_ev _ _ (by omega) (fun x hx => ?_) (setW_ss _)) ?_))))
    ·rcases List.mem_append.1 (mem_setW.1 hx) with hx | hx
     ·have := allPfx_size hot hx; omega
     ·have := pfx_le _ _ _ hx; omega
    ·have e1 : wrap64 ((j : Int) + 1 + 1) = ((j + 1 : Nat) : Int) + 1 := by unfold wrap64; omega
     have e2 : ((j : Int) + 1).toNat = j + 1 := by omega
     rw [e1, e2, setW_cons_set, List.append_assoc, ← pfx_succ]
     exact ihm (j + 1) (by omega)
  have := key ws[i].size 0 (by omega)
  have e : pfx ws[i] 0 = [] := rfl
  rw [e, List.append_nil] at this
  exact this
theorem of_ev (ws : List ByteArray) (ho : ∀ w ∈ ws, okWord w) (hl : ws.length ≤ 1000000) : Ev (fun k => spec_l2Of.f k ws) (trieW ws) := by
 unfold spec_l2Of.f
 have := of_l0 ws ho hl ws.length 0 (by omega)
 have e : setW (allPfx (ws.take 0)) = [⟨#[]⟩] := ss_ext (setW_ss _) (List.pairwise_singleton _ _) (fun x => by rw [mem_setW]; exact Iff.rfl)
 rw [e] at this
 exact this
end Go.Proofs.YtefcbnlljpdjnaaDoor.Q
namespace Go.Proofs.YtefcbnlljpdjnaaDoor.Q
open Go.RowKit Go.Proofs.YtefcbnlljpdjnaaDoorW.PrintWords Go.Proofs.YtefcbnlljpdjnaaDoorW.PrintLast
def qm : ByteArray := ⟨#[63]⟩
def prefX : Nat → List IN → Int → ByteArray → ByteArray
  | 0, _, node, s => if node = 0 then s else qm
  | n + 1, l, node, s =>
    if node > 0 then
      (if 0 ≤ (rd_T76 l node).f0 ∧ (rd_T76 l node).f0 ≤ 25 then
        (if (rd_T76 l node).f1 ≥ node then qm else prefX n l (rd_T76 l node).f1 (letterW (rd_T76 l node).f0 ++ s)) else qm)
    else if node = 0 then s else qm
theorem prefix_l0 (l : List IN) : ∀ (n : Nat) (node : Int) (s : ByteArray), node < l.length → s.size + n = 13 → Ev (fun k => spec_l2Prefix.l0 k node s l) (prefX n l node s) := by
 intro n
 induction n with
 | zero =>
  intro node s hn hs
  refine Ev.succ ?_
  simp only [spec_l2Prefix.l0, prefX]
  have key : Ev (fun k => spec_l2Prefix.j1 k node s false l) (if node = 0 then s else qm) := by
   refine Ev.succ ?_
   simp only [spec_l2Prefix.j1]
   refine Ev.neg (by decide) ?_
   by_cases h0 : node = 0
   ·rw [if_pos h0, if_pos h0]; exact Ev.pure _
   ·rw [if_neg h0, if_neg h0]; exact Ev.pure _
  have e : decide ((s.size : Int) ≤ 12) = false := decide_eq_false (by omega)
  rw [e]
  by_cases h : node > 0
  ·exact Ev.pos h key
  ·exact Ev.neg h key
 | succ n ih =>
  intro node s hn hs
  refine Ev.succ ?_
  simp only [spec_l2Prefix.l0, prefX]
  by_cases h : node > 0
  ·rw [if_pos h]
   refine Ev.pos h (Ev.succ ?_)
   simp only [spec_l2Prefix.j1, l1In_eq, Option.bind_some]
   refine Ev.pos (decide_eq_true (by omega)) (Ev.pos (by omega) (Ev.pos hn ?_))
   by_cases h2 : 0 ≤ (rd_T76 l node).f0 ∧ (rd_T76 l node).f0 ≤ 25
   ·rw [if_pos h2]
    refine Ev.pos (decide_eq_true h2) ?_
    by_cases h3 : (rd_T76 l node).f1 ≥ node
    ·rw [if_pos h3]; exact Ev.pos h3 (Ev.pure _)
    ·rw [if_neg h3]
     have hls := letterW_size (rd_T76 l node).f0
     unfold letterW at hls
     refine Ev.neg h3 (Ev.pos (by rw [hls]; omega) ?_)
     refine ih _ _ (by omega) ?_
     rw [size_app, hls]
     omega
   ·rw [if_neg h2]
    exact Ev.neg (fun hf => h2 (of_decide_eq_true hf)) (Ev.pure _)
  ·rw [if_neg h]
   refine Ev.neg h (Ev.succ ?_)
   simp only [spec_l2Prefix.j1]
   refine Ev.neg (by decide) ?_
   by_cases h0 : node = 0
   ·rw [if_pos h0, if_pos h0]; exact Ev.pure _
   ·rw [if_neg h0, if_neg h0]; exact Ev.pure _
theorem prefix_ev (l : List IN) (node : Int) (h : node < l.length) : Ev (fun k => spec_l2Prefix.f k l node) (prefX 13 l node ByteArray.empty) := by
 unfold spec_l2Prefix.f
 exact prefix_l0 l 13 node ByteArray.empty h rfl
def wordsX (l : List IN) : List Nat → List ByteArray
 | [] => []
 | i :: r => if (rd_T76 l (i : Int)).f2 = true then prefX 13 l (i : Int) ByteArray.empty :: wordsX l r else wordsX l r
theorem words_l0X (l : List IN) (hl : l.length ≤ 1048576) : ∀ (n i : Nat) (acc : List ByteArray), i + n = l.length → acc.length ≤ i → Ev (fun k => spec_l2Words.l0 k acc (i : Int) l) (acc ++ wordsX l (List.range' i n)) := by
 intro n
 induction n with
 | zero =>
  intro i acc h ha
  refine Ev.succ ?_
  simp only [spec_l2Words.l0, List.range'_zero, wordsX, List.append_nil]
  exact Ev.neg (by omega) (Ev.pure _)
 | succ n ih =>
  intro i acc h ha
  refine Ev.succ ?_
  simp only [spec_l2Words.l0, List.range'_succ, wordsX]
  refine Ev.pos (by omega) (Ev.pos (by omega) ?_)
  rw [wnext i (by omega)]
  by_cases e : (rd_T76 l (i : Int)).f2 = true
  ·rw [if_pos e]
   refine Ev.pos e (Ev.bind (prefix_ev l (i : Int) (by omega)) (Ev.pos (by omega) ?_))
   have := ih (i + 1) (acc ++ [prefX 13 l (i : Int) ByteArray.empty]) (by omega) (by simp; omega)
   simpa using this
  ·rw [if_neg e]
   exact Ev.neg e (ih (i + 1) acc (by omega) (by omega))
def wordsS (l : List IN) : List ByteArray := wordsX l (List.range' 0 l.length)
theorem wordsS_ev (l : List IN) (hl : l.length ≤ 1048576) : Ev (fun k => spec_l2Words.f k l) (wordsS l) := by
 unfold spec_l2Words.f
 have := words_l0X l hl l.length 0 [] (by omega) (Nat.le_refl _)
 simpa [wordsS] using this
theorem wordsX_length (l : List IN) : ∀ r, (wordsX l r).length ≤ r.length
 | [] => Nat.le_refl _
 | i :: r => by
  have := wordsX_length l r
  simp only [wordsX]
  split <;> simp <;> omega
theorem prefX_trie (ws : List ByteArray) (ho : ∀ w ∈ ws, okWord w) : ∀ (n i : Nat) (s : ByteArray), i < (prefW ws).length → (rdOf ByteArray.empty (prefW ws) (i : Int)).size < n → prefX n (trieW ws) (i : Int) s = rdOf ByteArray.empty (prefW ws) (i : Int) ++ s := by
 intro n
 induction n with
 | zero => intro i s _ h; exact absurd h (Nat.not_lt_zero _)
 | succ n ih =>
  intro i s hi hs
  simp only [prefX]
  by_cases h0 : 0 < i
  ·have hi2 : i < (trieW ws).length := by rw [trieW_length]; exact hi
   rw [if_pos (by omega), rd_nat' _ i hi2, trieW_at ws hi]
   obtain ⟨j, hj, e0, e1, e2, e3, e4⟩ := node_at ws ho h0 hi
   rw [if_pos ⟨e2, e3⟩, e1, if_neg (by omega), ih j _ (by omega) ?_]
   ·apply lw_inj
    rw [lw_app, lw_app, ← List.append_assoc, ← lw_app, e4, lw_app]
   ·rw [e0, ByteArray.size_extract]
    have := prefW_nonzero ws h0 hi
    omega
  ·obtain rfl : i = 0 := by omega
   rw [if_neg (by omega), if_pos (by omega)]
   have := prefW_zero ws
   rw [show ((0 : Nat) : Int) = 0 from rfl, this]
   apply lw_inj
   rw [lw_app]; rfl
theorem app_empty (a : ByteArray) : a ++ ByteArray.empty = a := lw_inj (by rw [lw_app]; exact List.append_nil _)
theorem prefX_trie13 {ws : List ByteArray} (ho : ∀ w ∈ ws, okWord w) {i : Nat} (hi : i < (prefW ws).length) : prefX 13 (trieW ws) (i : Int) ByteArray.empty = rdOf ByteArray.empty (prefW ws) (i : Int) := by
 have hm : rdOf ByteArray.empty (prefW ws) (i : Int) ∈ prefW ws := by rw [rd_nat _ hi]; exact List.getElem_mem hi
 have := (prefW_ok ho hm).1
 rw [prefX_trie ws ho 13 i _ hi (by omega), app_empty]
theorem wordsX_trie {ws : List ByteArray} (ho : ∀ w ∈ ws, okWord w) : ∀ (n i : Nat), i + n = (prefW ws).length → wordsX (trieW ws) (List.range' i n) = ((prefW ws).drop i).filter fun p => hasW ws p := by
 intro n
 induction n with
 | zero =>
  intro i h
  rw [List.drop_of_length_le (by omega)]
  rfl
 | succ n ih =>
  intro i h
  have hi : i < (prefW ws).length := by omega
  have hi2 : i < (trieW ws).length := by rw [trieW_length]; exact hi
  rw [List.range'_succ, List.drop_eq_getElem_cons hi, List.filter_cons]
  simp only [wordsX]
  rw [rd_nat' _ i hi2, trieW_at ws hi, prefX_trie13 ho hi, ih (i + 1) (by omega), rd_nat _ hi]
  have e : (nodeW (prefW ws) ws (prefW ws)[i]).f2 = hasW ws (prefW ws)[i] := by unfold nodeW; split <;> rfl
  rw [e]
theorem wordsS_trie {ws : List ByteArray} (h : VW ws) : wordsS (trieW ws) = ws := by
 unfold wordsS
 rw [trieW_length, wordsX_trie h.ok _ 0 (by omega), List.drop_zero, filter_ws h.ss]
def isTrieS (l : List IN) : Bool := decide (1 ≤ l.length ∧ l.length ≤ 481) && ((setRes (wordsS l)).2 && decide (trieW (setRes (wordsS l)).1 = l))
theorem trieS_ev (l : List IN) : Ev (fun k => spec_l2Trie.f k l) (isTrieS l) := by
 unfold spec_l2Trie.f isTrieS
 simp only [l1In_eq, Option.bind_some]
 by_cases h : 1 ≤ l.length ∧ l.length ≤ 481
 ·rw [decide_eq_true h, Bool.true_and]
  have hwl := wordsX_length l (List.range' 0 l.length)
  rw [List.length_range'] at hwl
  refine Ev.pos (decide_eq_true (by omega)) (Ev.bind (wordsS_ev l (by omega)) (Ev.bind (set_ev _ (by unfold wordsS; omega)) ?_))
  by_cases h2 : (setRes (wordsS l)).2 = true
  ·rw [h2, Bool.true_and]
   refine Ev.pos rfl ?_
   have hok : ∀ w ∈ wordsS l, okWord w := by
    unfold setRes at h2
    split at h2
    ·assumption
    ·cases h2
   have e1 : (setRes (wordsS l)).1 = setW (wordsS l) := by unfold setRes; rw [if_pos hok]
   rw [e1]
   have hok2 : ∀ w ∈ setW (wordsS l), okWord w := fun w hw => hok w (mem_setW.1 hw)
   have hl2 := setW_len (wordsS l)
   have hl3 : (wordsS l).length ≤ l.length := hwl
   have hle := prefW_le (setW (wordsS l)) (fun w hw => (hok2 w hw).1)
   exact Ev.bind (of_ev _ hok2 (by omega)) (Ev.bind (same_ev _ _ (by rw [trieW_length]; omega)) (Ev.pure _))
  ·rw [Bool.not_eq_true] at h2
   rw [h2, Bool.false_and]
   exact Ev.neg (by decide) (Ev.pure _)
 ·rw [decide_eq_false h, Bool.false_and]
  exact Ev.neg (fun hf => h (by have := of_decide_eq_true hf; omega)) (Ev.pure _)
theorem isTrieS_iff (l : List IN) : isTrieS l = true ↔ V l := by
 constructor
 ·intro h
  unfold isTrieS at h
  simp only [Bool.and_eq_true, decide_eq_true_eq] at h
  obtain ⟨_, h2, h3⟩ := h
  unfold setRes at h2 h3
  split at h2
  ·rename_i hok
   rw [if_pos hok] at h3
   simp only [decide_eq_true_eq] at h2
   exact ⟨_, ⟨setW_ss _, fun w hw => hok w (mem_setW.1 hw), by omega⟩, h3.symm⟩
  ·cases h2
 ·rintro ⟨ws, h, rfl⟩
  unfold isTrieS
  have h1 := prefW_pos ws
  have h2 := prefW_le ws (fun w hw => (h.ok w hw).1)
  have h3 := h.len
  have e : setRes (wordsS (trieW ws)) = (ws, true) := by
   rw [wordsS_trie h]
   unfold setRes
   rw [if_pos h.ok, setW_of_ss h.ss, decide_eq_true (by omega)]
  rw [e, trieW_length]
  simp
  omega
theorem trie_same (l : List IN) : isTrieS l = isTrieW l := by rw [Bool.eq_iff_iff, isTrieS_iff, isTrieW_iff]
end Go.Proofs.YtefcbnlljpdjnaaDoor.Q
namespace Go.Proofs.YtefcbnlljpdjnaaDoor.Q
open Go.RowKit Go.Proofs.YtefcbnlljpdjnaaDoorW.PrintWords Go.Proofs.YtefcbnlljpdjnaaDoorW.PrintLast
theorem szTrie_gen (l : List LN) (n : Nat) (hl : l.length ≤ 9223372036854775807) (hn : n ≤ 1048576) : laws_szTrie.f l (n : Int) = some (if l.length ≤ n then ((n - l.length : Nat) : Int) else -1) := by
 unfold laws_szTrie.f laws_szNodeS.f
 have e : wrap64 ((n : Int) - (l.length : Int)) = (n : Int) - (l.length : Int) := by unfold wrap64; omega
 rw [e]
 by_cases h : l.length ≤ n
 ·rw [if_neg (show ¬ ((n : Int) - (l.length : Int) < 0) by omega), Option.bind_some, if_neg (show ¬ ((n : Int) - (l.length : Int) < 0) by omega), if_pos h]
  congr 1
  omega
 ·rw [if_pos (show ((n : Int) - (l.length : Int) < 0) by omega), Option.bind_some, if_pos (by decide), if_neg h]
theorem trie_cases (l : List IN) : isTrieW l = false ∨ ∃ ws, VW ws ∧ l = trieW ws ∧ isTrieW l = true := by
 cases h : isTrieW l with
 | false => exact .inl rfl
 | true => obtain ⟨ws, hv, e⟩ := (isTrieW_iff l).1 h; exact .inr ⟨ws, hv, e, rfl⟩
theorem specT (l : List IN) {b : Bool} (h : isTrieW l = b) : Ev (fun k => spec_l2Trie.f k l) b := by rw [← h, ← trie_same]; exact trieS_ev l
theorem implT (l : List IN) {b : Bool} (h : isTrieW l = b) : Ev (fun k => impl_isTrie.f k l) b := h ▸ isTrie_ev l
theorem trie_le {ws : List ByteArray} (h : VW ws) : (trieW ws).length ≤ 481 := by
 have h2 := prefW_le ws (fun w hw => (h.ok w hw).1)
 have h3 := h.len
 rw [trieW_length]
 omega
theorem specWords {ws : List ByteArray} (h : VW ws) : Ev (fun k => spec_l2Words.f k (trieW ws)) ws := by
 have := wordsS_ev (trieW ws) (by have := trie_le h; omega)
 rwa [wordsS_trie h] at this
theorem implWords {ws : List ByteArray} (h : VW ws) : Ev (fun k => impl_Trie_words.f k (trieW ws)) ws := by
 have := words_ev (trieW ws) _ (prefixesW_trie h)
 rwa [wordsW_trie h.ss] at this
end Go.Proofs.YtefcbnlljpdjnaaDoor.Q
namespace Go.Proofs.YtefcbnlljpdjnaaDoor.Q
open Go.RowKit Go.Proofs.YtefcbnlljpdjnaaDoorW.PrintWords Go.Proofs.YtefcbnlljpdjnaaDoorW.PrintLast
theorem two_ev (a b : List IN) : Ev (fun k => spec_l5Two.f k a b) (isTrieW a && isTrieW b) := by
 unfold spec_l5Two.f
 cases h : isTrieW a with
 | false => exact Ev.bind (specT a h) (Ev.neg (by decide) (Ev.pure _))
 | true => exact Ev.bind (specT a h) (Ev.pos rfl (Ev.bind (specT b rfl) (Ev.pure _)))
theorem two_cases (a b : List IN) : (isTrieW a && isTrieW b) = false ∨ ∃ wa wb, VW wa ∧ VW wb ∧ a = trieW wa ∧ b = trieW wb ∧ isTrieW a = true ∧ isTrieW b = true := by
 rcases trie_cases a with ha | ⟨wa, hva, rfl, ha⟩
 ·exact .inl (by rw [ha]; rfl)
 ·rcases trie_cases b with hb | ⟨wb, hvb, rfl, hb⟩
  ·exact .inl (by rw [hb, Bool.and_false])
  ·exact .inr ⟨wa, wb, hva, hvb, rfl, rfl, ha, hb⟩
theorem two_no {a b : List IN} (h : (isTrieW a && isTrieW b) = false) : isTrieW a = false ∨ (isTrieW a = true ∧ isTrieW b = false) := by
 cases ha : isTrieW a with
 | false => exact .inl rfl
 | true => rw [ha, Bool.true_and] at h; exact .inr ⟨rfl, h⟩
end Go.Proofs.YtefcbnlljpdjnaaDoor.Q
namespace Go.Proofs.YtefcbnlljpdjnaaDoor.Q
open Go.RowKit Go.Proofs.YtefcbnlljpdjnaaDoorW.PrintWords Go.Proofs.YtefcbnlljpdjnaaDoorW.PrintLast
theorem okWord_D (w : ByteArray) : decide (okWordD w) = decide (okWord w) := decide_eq_decide.2 Iff.rfl
end Go.Proofs.YtefcbnlljpdjnaaDoor.Q
namespace Go.Proofs.YtefcbnlljpdjnaaDoor.Q
open Go.RowKit Go.Proofs.YtefcbnlljpdjnaaDoorW.PrintWords Go.Proofs.YtefcbnlljpdjnaaDoorW.PrintLast
def madeW (l : List ByteArray) : List IN × Bool := if (∀ w ∈ l, okWord w) ∧ (setW l).length ≤ 40 then (trieW (setW l), true) else ([], false)
theorem madeW_le (l : List ByteArray) : (madeW l).1.length ≤ 1048576 := by
 unfold madeW
 split
 ·rename_i h
  have := prefW_le (setW l) (fun w hw => (h.1 w (mem_setW.1 hw)).1)
  show (trieW (setW l)).length ≤ _
  rw [trieW_length]
  omega
 ·exact Nat.zero_le _
theorem specMade (l : List ByteArray) (hl : l.length ≤ 4294967296) {F : Nat → Option (List ByteArray × Bool)} (hF : F = fun k => spec_l2Set.f k l) : Ev (fun k => (F k).bind fun bt => if bt.2 = true then ((spec_l2Of.f k bt.1).bind fun t => some (t, true)) else some (([] : List IN), false)) (madeW l) := by
 subst hF
 have h := set_ev l hl
 unfold setRes at h
 unfold madeW
 by_cases ho : ∀ w ∈ l, okWord w
 ·rw [if_pos ho] at h
  by_cases h40 : (setW l).length ≤ 40
  ·rw [decide_eq_true (by omega)] at h
   rw [if_pos ⟨ho, h40⟩]
   exact Ev.bind h (Ev.pos rfl (Ev.bind (of_ev (setW l) (fun w hw => ho w (mem_setW.1 hw)) (by omega)) (Ev.pure _)))
  ·rw [decide_eq_false (by omega)] at h
   rw [if_neg (fun q => h40 q.2)]
   exact Ev.bind h (Ev.neg (by simp) (Ev.pure _))
 ·rw [if_neg ho] at h
  rw [if_neg (fun q => ho q.1)]
  exact Ev.bind h (Ev.neg (by simp) (Ev.pure _))
theorem implOfWords (l : List ByteArray) (ho : ∀ w ∈ l, okWord w) (hl : l.length ≤ 4398046511104) : impl_ofWords.f l = some (madeW l) := by
 unfold impl_ofWords.f impl_set.f madeW
 rw [if_pos hl, Option.bind_some]
 by_cases h40 : (setW l).length ≤ 40
 ·rw [if_neg (by omega), if_pos ⟨ho, h40⟩, okTrieOf_of (fun w hw => (ho w (mem_setW.1 hw)).1) (by omega) (SS.sw (setW_ss l)), Option.bind_some]
 ·rw [if_pos (by omega), if_neg (fun q => h40 q.2)]
theorem implTrieOf (l : List ByteArray) (hl : l.length ≤ 4398046511104) : impl_TrieOf.f l = some (madeW l) := by
 unfold impl_TrieOf.f slices_ContainsFunc_string_string_impl_TrieOf_1.f
 rw [if_pos (by omega), Option.bind_some]
 by_cases ho : ∀ w ∈ l, okWord w
 ·have e : l.any noWord = false := by
   rw [List.any_eq_false]
   intro x hx
   unfold noWord
   rw [okWord_D, decide_eq_true (ho x hx)]
   decide
  rw [e, if_neg (by decide), implOfWords l ho hl]
  rfl
 ·have e : l.any noWord = true := by
   rw [List.any_eq_true]
   obtain ⟨x, hx⟩ := Classical.not_forall.1 ho
   obtain ⟨hm, hn⟩ := Classical.not_imp.1 hx
   refine ⟨x, hm, ?_⟩
   unfold noWord
   rw [okWord_D, decide_eq_false hn]
   rfl
  rw [e, if_pos rfl]
  unfold madeW
  rw [if_neg (fun q => ho q.1)]
end Go.Proofs.YtefcbnlljpdjnaaDoor.Q
namespace Go.Proofs.YtefcbnlljpdjnaaDoor.Q
open Go.RowKit Go.Proofs.YtefcbnlljpdjnaaDoorW.PrintWords Go.Proofs.YtefcbnlljpdjnaaDoorW.PrintLast
theorem impl5 (l : List ByteArray) (hl : l.length ≤ 4398046511104) : impl_madeOf.f l = some (madeW l) := by
 unfold impl_madeOf.f
 rw [implTrieOf l hl]
 rfl
end Go.Proofs.YtefcbnlljpdjnaaDoor.Q
namespace Go.Proofs.YtefcbnlljpdjnaaDoor.Q
open Go.RowKit Go.Proofs.YtefcbnlljpdjnaaDoorW.PrintWords Go.Proofs.YtefcbnlljpdjnaaDoorW.PrintLast
theorem spec5 (l : List ByteArray) (hl : l.length ≤ 4294967296) : Ev (fun k => spec_l5Made.f k l) (madeW l) := by
 unfold spec_l5Made.f
 exact specMade l hl rfl
end Go.Proofs.YtefcbnlljpdjnaaDoor.Q
namespace Go.Proofs.YtefcbnlljpdjnaaDoor.Q
open Go.RowKit Go.Proofs.YtefcbnlljpdjnaaDoorW.PrintWords Go.Proofs.YtefcbnlljpdjnaaDoorW.PrintLast
def mkN (i : Nat) : IN := ⟨((1 + 3 * i : Nat) : Int), ((2 + 3 * i : Nat) : Int), (Int.tmod ((3 + 3 * i : Nat) : Int) 3 == 0)⟩
theorem markH_l0 : ∀ (d : Nat) (l : List IN) (i : Nat), i + d = l.length → l.length ≤ 1048576 → (∀ j (h : j < l.length), j < i → l[j] = mkN j) →
  ∃ ms : List IN, ms.length = l.length ∧ (∀ j (h : j < ms.length), ms[j] = mkN j) ∧ Ev (fun k => laws_markNodeS.l0 k l ((1 + 3 * i : Nat) : Int) (i : Int)) (((1 + 3 * l.length : Nat) : Int), ms) := by
 intro d
 induction d with
 | zero =>
  intro l i h hl hm
  refine ⟨l, rfl, fun j hj => hm j hj (by omega), Ev.succ ?_⟩
  simp only [laws_markNodeS.l0]
  obtain rfl : i = l.length := by omega
  exact Ev.neg (by omega) (Ev.pure _)
 | succ d ih =>
  intro l i h hl hm
  have hi : i < l.length := by omega
  have e1 : wrap64 (((1 + 3 * i : Nat) : Int) + 1) = ((2 + 3 * i : Nat) : Int) := by unfold wrap64; omega
  have e2 : wrap64 (((2 + 3 * i : Nat) : Int) + 1) = ((3 + 3 * i : Nat) : Int) := by unfold wrap64; omega
  have e3 : wrap64 (((3 + 3 * i : Nat) : Int) + 1) = ((1 + 3 * (i + 1) : Nat) : Int) := by unfold wrap64; omega
  obtain ⟨y, hy⟩ : ∃ y, y = l.set (i : Int).toNat (⟨((1 + 3 * i : Nat) : Int), (rd_T76 l (i : Int)).f1, (rd_T76 l (i : Int)).f2⟩ : IN) := ⟨_, rfl⟩
  have hyi : rd_T76 y (i : Int) = ⟨((1 + 3 * i : Nat) : Int), (rd_T76 l (i : Int)).f1, (rd_T76 l (i : Int)).f2⟩ := by
   rw [rd_nat' y i (by rw [hy, List.length_set]; exact hi)]
   simp [hy]
  obtain ⟨z, hz⟩ : ∃ z, z = y.set (i : Int).toNat (⟨(rd_T76 y (i : Int)).f0, ((2 + 3 * i : Nat) : Int), (rd_T76 y (i : Int)).f2⟩ : IN) := ⟨_, rfl⟩
  have hyl : y.length = l.length := by rw [hy, List.length_set]
  have hzl : z.length = l.length := by rw [hz, List.length_set, hyl]
  have hzi : rd_T76 z (i : Int) = ⟨((1 + 3 * i : Nat) : Int), ((2 + 3 * i : Nat) : Int), (rd_T76 l (i : Int)).f2⟩ := by
   rw [rd_nat' z i (by omega)]
   simp [hz, hyi]
  have hw : z.set (i : Int).toNat ⟨(rd_T76 z (i : Int)).f0, (rd_T76 z (i : Int)).f1, (Int.tmod ((3 + 3 * i : Nat) : Int) 3 == 0)⟩ = l.set i (mkN i) := by
   rw [hzi, hz, hy, Int.toNat_natCast, List.set_set, List.set_set]
   rfl
  obtain ⟨ms, h1, h2, h3⟩ := ih (l.set i (mkN i)) (i + 1) (by rw [List.length_set]; omega) (by rw [List.length_set]; exact hl) (fun j hj hji => by
   rw [List.length_set] at hj
   rw [List.getElem_set]
   split
   ·rename_i e; subst e; rfl
   ·exact hm j hj (by omega))
  rw [List.length_set] at h1 h3
  refine ⟨ms, h1, h2, Ev.succ ?_⟩
  simp only [laws_markNodeS.l0, e1, e2, e3, Option.bind_some]
  rw [wnext i (by omega), ← hy, ← hz, hw]
  exact Ev.pos (by omega) (Ev.pos (by omega) h3)
theorem heldH_l0 (l : List IN) (hl : l.length ≤ 1048576) (hm : ∀ j (h : j < l.length), l[j] = mkN j) : ∀ (d i : Nat), i + d = l.length → Ev (fun k => laws_heldNodeS.l0 k l ((1 + 3 * i : Nat) : Int) (i : Int)) ((1 + 3 * l.length : Nat) : Int) := by
 intro d
 induction d with
 | zero =>
  intro i h
  refine Ev.succ ?_
  simp only [laws_heldNodeS.l0]
  obtain rfl : i = l.length := by omega
  exact Ev.neg (by omega) (Ev.pure _)
 | succ d ih =>
  intro i h
  have hi : i < l.length := by omega
  have e1 : wrap64 (((1 + 3 * i : Nat) : Int) + 1) = ((2 + 3 * i : Nat) : Int) := by unfold wrap64; omega
  have e2 : wrap64 (((2 + 3 * i : Nat) : Int) + 1) = ((3 + 3 * i : Nat) : Int) := by unfold wrap64; omega
  have e3 : wrap64 (((3 + 3 * i : Nat) : Int) + 1) = ((1 + 3 * (i + 1) : Nat) : Int) := by unfold wrap64; omega
  have hr : rd_T76 l (i : Int) = mkN i := by rw [rd_nat' l i hi]; exact hm i hi
  refine Ev.succ ?_
  simp only [laws_heldNodeS.l0, e1, e2, e3, hr]
  rw [wnext i (by omega)]
  exact Ev.pos (by omega) (Ev.pos (by omega) (Ev.pos rfl (Ev.pos rfl (Ev.neg (by simp [mkN]) (ih (i + 1) (by omega))))))
theorem markH_ev (l : List IN) (hl : l.length ≤ 1048576) : ∃ ms : List IN, Ev (fun k => laws_markTrie.f k l 1) (((1 + 3 * l.length : Nat) : Int), ms) ∧ Ev (fun k => laws_heldTrie.f k ms 1) ((1 + 3 * l.length : Nat) : Int) := by
 obtain ⟨ms, h1, h2, h3⟩ := markH_l0 l.length l 0 (by omega) hl (fun j _ hj => absurd hj (Nat.not_lt_zero _))
 refine ⟨ms, ?_, ?_⟩
 ·unfold laws_markTrie.f laws_markNodeS.f; exact Ev.bind h3 (Ev.pure _)
 ·unfold laws_heldTrie.f laws_heldNodeS.f
  have := heldH_l0 ms (by omega) h2 ms.length 0 (by omega)
  rw [h1] at this
  exact Ev.bind this (Ev.neg (by omega) (Ev.pure _))
end Go.Proofs.YtefcbnlljpdjnaaDoor.Q
namespace Go.Proofs.YtefcbnlljpdjnaaDoor.Q
open Go.RowKit Go.Proofs.YtefcbnlljpdjnaaDoorW.PrintWords Go.Proofs.YtefcbnlljpdjnaaDoorW.PrintLast
theorem markNodeS2_l0 : ∀ (n : Nat) (l : List IN) (m i : Nat), i + n = l.length → l.length ≤ 1048576 → m + 3 * n ≤ 1099511627776 → ∃ r : List IN, Ev (fun k => laws_markNodeS.l0 k l (m : Int) (i : Int)) (((m + 3 * n : Nat) : Int), r) := by
 intro n
 induction n with
 | zero =>
  intro l m i h hl hm
  refine ⟨l, Ev.succ ?_⟩
  simp only [laws_markNodeS.l0]
  exact Ev.neg (by omega) (Ev.pure _)
 | succ n ih =>
  intro l m i h hl hm
  have e1 : wrap64 ((m : Int) + 1) = ((m + 1 : Nat) : Int) := by unfold wrap64; omega
  have e2 : wrap64 (((m + 1 : Nat) : Int) + 1) = ((m + 2 : Nat) : Int) := by unfold wrap64; omega
  have e3 : wrap64 (((m + 2 : Nat) : Int) + 1) = ((m + 3 : Nat) : Int) := by unfold wrap64; omega
  obtain ⟨y, hy⟩ : ∃ y, y = l.set (i : Int).toNat (⟨(m : Int), (rd_T76 l (i : Int)).f1, (rd_T76 l (i : Int)).f2⟩ : IN) := ⟨_, rfl⟩
  obtain ⟨z, hz⟩ : ∃ z, z = y.set (i : Int).toNat (⟨(rd_T76 y (i : Int)).f0, ((m + 1 : Nat) : Int), (rd_T76 y (i : Int)).f2⟩ : IN) := ⟨_, rfl⟩
  have hyl : y.length = l.length := by rw [hy, List.length_set]
  have hzl : z.length = l.length := by rw [hz, List.length_set, hyl]
  obtain ⟨r, hr⟩ := ih (z.set (i : Int).toNat ⟨(rd_T76 z (i : Int)).f0, (rd_T76 z (i : Int)).f1, ((Int.tmod ((m + 2 : Nat) : Int) 3) == 0)⟩) (m + 3) (i + 1) (by rw [List.length_set, hzl]; omega) (by rw [List.length_set, hzl]; exact hl) (by omega)
  rw [show m + 3 + 3 * n = m + 3 * (n + 1) by omega] at hr
  refine ⟨r, Ev.succ ?_⟩
  simp only [laws_markNodeS.l0, e1, e2, e3, Option.bind_some]
  rw [wnext i (by omega), ← hy, ← hz]
  exact Ev.pos (by omega) (Ev.pos (by omega) hr)
theorem markTrie2_ev (l : List IN) (m : Nat) (hl : l.length ≤ 1048576) (hm : m ≤ 4294967296) : ∃ r : List IN, Ev (fun k => laws_markTrie.f k l (m : Int)) (((m + 3 * l.length : Nat) : Int), r) := by
 obtain ⟨r, hr⟩ := markNodeS2_l0 l.length l m 0 (by omega) hl (by omega)
 exact ⟨r, by unfold laws_markTrie.f laws_markNodeS.f; exact Ev.bind hr (Ev.pure _)⟩
end Go.Proofs.YtefcbnlljpdjnaaDoor.Q
namespace Go.Proofs.YtefcbnlljpdjnaaDoor.Q
open Go.ChangeShapes Go.WideShapes Go.Deep Go.RowKit Go.Proofs.YtefcbnlljpdjnaaDoorW.PrintWords Go.Proofs.YtefcbnlljpdjnaaDoorW.PrintLast Go.Proofs.YtefcbnlljpdjnaaDoorW.PrintMore
def I64 (n : Int) : Prop := -9223372036854775808 ≤ n ∧ n ≤ 9223372036854775807
theorem I64_of {n : Int} (h : (Lit.int .i64 n).wf = true) : I64 n := by
  have h1 : IntKind.i64.min = -9223372036854775808 := by decide
  simp [Lit.wf, h1] at h
  exact h
set_option maxRecDepth 100000 in
theorem open_trie {H : Type} {enc : TypeId × Value → H} {w : World} {base b0 : Nat} {spare : Nat → Bool} {held : Bool} {r : Reach} {v : Value} {d : DataW H} {p : List MemPlace} (hv : Value.okWide Tryd.prog w r b0 36 v) (h : DataW.Trod enc Tryd.prog w base spare held 36 v d p) :
    ∃ (A : Option Addr) (c : Nat) (l : List S81), v = .agg #[.slice A l.length c] ∧ Kd.C k81 w A l.length l ∧ l.length ≤ c ∧ l.length ≤ maxLen ∧ ∀ x ∈ l, I64 x.f0 ∧ I64 x.f1 := by
  obtain ⟨cs, rfl, hsz⟩ := okWide_struct Tryd.underlying36 hv
  have hct : Tryd.prog.cellsOf 36 = 1 := by kernel_rfl
  have hsz1 : cs.size = 1 := hsz.trans hct
  obtain ⟨c0, rfl⟩ : ∃ c0, cs = #[c0] := ⟨cs[0], by
    apply Array.ext
    · simp [hsz1]
    · intro i h1 h2
      have : i = 0 := by omega
      subst this; rfl⟩
  obtain ⟨fuel, hf⟩ := h
  obtain ⟨xs, n, _, hx, _, hlen, hg⟩ := DataW.trod_struct Tryd.underlying36 hf
  have h0 := hg 0 _ rfl
  have hc1 : Tryd.prog.cellsOf 34 = 1 := by kernel_rfl
  simp only [Value.cells, List.drop_zero, hc1] at h0
  have h0' : DataW.trod enc Tryd.prog w base spare held n 34 [c0] = xs[0]? := h0
  rw [List.getElem?_eq_getElem (show 0 < xs.length by rw [hlen]; decide)] at h0'
  have hC : Tryd.prog.cellsOf 81 = 3 := by kernel_rfl
  have i1 : Tryd.prog.cellsOf 3 = 1 := by kernel_rfl
  have i2 : Tryd.prog.cellsOf 4 = 1 := by kernel_rfl
  rcases open_slice Tryd.underlying34 h0' with ⟨e, _⟩ | ⟨a, len, cap, m, n', D, Pl, e, _, hl, hm, hmm, _, hi⟩
  · injection e with e
    subst e
    exact ⟨none, 0, [], rfl, ⟨rfl, by decide, fun h => absurd h (by decide)⟩, Nat.le_refl _, Nat.zero_le _, fun x hx => by cases hx⟩
  · injection e with e
    subst e
    have hlm : len ≤ m := by rw [hmm]; split <;> omega
    have hex : ∀ i, i < len → ∃ x : S81, I64 x.f0 ∧ I64 x.f1 ∧ ∀ j u, [Value.int .i64 x.f0, .int .i64 x.f1, .bool x.f2][j]? = some u → w.cell? (a.add (i * 3 + j)) = some u := by
      intro i hil
      obtain ⟨cs', hc, ht'⟩ := hi i (by omega)
      rw [hC] at hc
      obtain ⟨ys, n2, _, _, hcl, hyl, hfl⟩ := DataW.trod_struct Tryd.underlying81 ht'
      obtain ⟨_, hcl3, hat⟩ := World.cells?_some hc
      have f0 := hfl 0 _ rfl
      have f1 := hfl 1 _ rfl
      have f2 := hfl 2 _ rfl
      rw [hC] at hcl
      obtain ⟨u0, u1, u2, rfl⟩ : ∃ u0 u1 u2, cs' = [u0, u1, u2] := by
        match cs', hcl with
        | [u0, u1, u2], _ => exact ⟨u0, u1, u2, rfl⟩
      replace f0 : DataW.trod enc Tryd.prog w base spare held n2 3 ((List.drop 0 [u0, u1, u2]).take (Tryd.prog.cellsOf 3)) = ys[0]? := f0
      rw [i1] at f0
      replace f0 : DataW.trod enc Tryd.prog w base spare held n2 3 [u0] = ys[0]? := f0
      replace f1 : DataW.trod enc Tryd.prog w base spare held n2 3 ((List.drop 1 [u0, u1, u2]).take (Tryd.prog.cellsOf 3)) = ys[1]? := f1
      rw [i1] at f1
      replace f1 : DataW.trod enc Tryd.prog w base spare held n2 3 [u1] = ys[1]? := f1
      replace f2 : DataW.trod enc Tryd.prog w base spare held n2 4 ((List.drop 2 [u0, u1, u2]).take (Tryd.prog.cellsOf 4)) = ys[2]? := f2
      rw [i2] at f2
      replace f2 : DataW.trod enc Tryd.prog w base spare held n2 4 [u2] = ys[2]? := f2
      rw [List.getElem?_eq_getElem (show 0 < ys.length by rw [hyl]; decide)] at f0
      rw [List.getElem?_eq_getElem (show 1 < ys.length by rw [hyl]; decide)] at f1
      rw [List.getElem?_eq_getElem (show 2 < ys.length by rw [hyl]; decide)] at f2
      obtain ⟨x0, e0, _, w0⟩ := DataW.trod_int Tryd.underlying3 f0
      obtain ⟨x1, e1, _, w1⟩ := DataW.trod_int Tryd.underlying3 f1
      obtain ⟨x2, e2, _⟩ := DataW.trod_bool Tryd.underlying4 f2
      injection e0 with e0
      injection e1 with e1
      injection e2 with e2
      subst e0; subst e1; subst e2
      refine ⟨⟨x0, x1, x2⟩, I64_of w0, I64_of w1, fun j u hj => ?_⟩
      obtain ⟨hj3, hju⟩ := List.getElem?_eq_some_iff.1 hj
      rw [← Go.Deep.add_add, hat j (show j < 3 from hj3)]
      exact hj
    obtain ⟨f, hf⟩ : ∃ f : Nat → S81, ∀ i, i < len → I64 (f i).f0 ∧ I64 (f i).f1 ∧ ∀ j u, [Value.int .i64 (f i).f0, .int .i64 (f i).f1, .bool (f i).f2][j]? = some u → w.cell? (a.add (i * 3 + j)) = some u :=
      ⟨fun i => if h : i < len then Classical.choose (hex i h) else ⟨0, 0, false⟩, fun i h => by simp only [h, dite_true]; exact Classical.choose_spec (hex i h)⟩
    have hfl : ((List.range len).map f).length = len := by simp
    refine ⟨some a, cap, (List.range len).map f, by rw [hfl], ?_, by rw [hfl]; exact hl, by rw [hfl]; omega, ?_⟩
    · rw [hfl]
      refine ⟨by simp, by unfold maxLen at hm; omega, fun _ => ⟨a, rfl, fun j p hj => ?_⟩⟩
      obtain ⟨hjl, rfl⟩ := List.getElem?_eq_some_iff.1 hj
      rw [hfl] at hjl
      refine ⟨_, rfl, k81_mk w _, fun i u hu => ?_⟩
      simp only [List.getElem_map, List.getElem_range] at hu
      exact (hf j hjl).2.2 i u hu
    · intro x hx
      obtain ⟨i, hi, rfl⟩ := List.mem_map.1 hx
      exact ⟨(hf i (List.mem_range.1 hi)).1, (hf i (List.mem_range.1 hi)).2.1⟩
end Go.Proofs.YtefcbnlljpdjnaaDoor.Q
namespace Go.Proofs.YtefcbnlljpdjnaaDoor.Q
open Go.RowKit Go.Proofs.YtefcbnlljpdjnaaDoorW.PrintWords Go.Proofs.YtefcbnlljpdjnaaDoorW.PrintLast
def timesW (wa wb : List ByteArray) : List ByteArray := wa.flatMap fun v => wb.map fun x => v ++ x
theorem times_take (wa wb : List ByteArray) {i : Nat} (h : i < wa.length) : timesW (wa.take (i + 1)) wb = timesW (wa.take i) wb ++ wb.map fun x => wa[i] ++ x := by
 unfold timesW
 rw [List.take_succ_eq_append_getElem h, List.flatMap_append]
 simp
theorem times_l1s (wa wb : List ByteArray) (ha : wa.length ≤ 40) (hb : wb.length ≤ 40) (hza : ∀ x ∈ wa, x.size ≤ 12) (hzb : ∀ x ∈ wb, x.size ≤ 12) (i : Nat) (hi : i < wa.length) (r : List IN × Bool)
  (hn : ∀ acc, acc = timesW (wa.take (i + 1)) wb → acc.length ≤ 40 * (i + 1) → Ev (fun k => spec_TimesTrie.l0 k acc wa wb ((i + 1 : Nat) : Int)) r) : ∀ (n j : Nat) (acc : List ByteArray), j + n = wb.length → acc = timesW (wa.take i) wb ++ (wb.take j).map (fun x => wa[i] ++ x) → acc.length ≤ 40 * i + j →
  Ev (fun k => spec_TimesTrie.l1 k acc wa wb (i : Int) (j : Int)) r := by
 intro n
 induction n with
 | zero =>
  intro j acc h he hl
  refine Ev.succ ?_
  simp only [spec_TimesTrie.l1]
  rw [wnext i (by omega)]
  refine Ev.neg (by omega) (hn acc ?_ (by omega))
  rw [he, times_take wa wb hi, show wb.take j = wb from List.take_of_length_le (by omega)]
 | succ n ih =>
  intro j acc h he hl
  have hj : j < wb.length := by omega
  have z1 := hza _ (List.getElem_mem hi)
  have z2 := hzb _ (List.getElem_mem hj)
  refine Ev.succ ?_
  simp only [spec_TimesTrie.l1]
  rw [wnext j (by omega), rd_nat wa hi, rd_nat wb hj]
  refine Ev.pos (by omega) (Ev.pos (by omega) (Ev.pos (by omega) (Ev.pos (by omega) (Ev.pos (by omega) (Ev.pos (by omega) (ih (j + 1) _ (by omega) ?_ (by rw [List.length_append, List.length_singleton]; omega)))))))
  rw [he, List.take_succ_eq_append_getElem hj, List.map_append, List.append_assoc]; rfl
theorem times_l0s (wa wb : List ByteArray) (ha : wa.length ≤ 40) (hb : wb.length ≤ 40) (hza : ∀ x ∈ wa, x.size ≤ 12) (hzb : ∀ x ∈ wb, x.size ≤ 12) : ∀ (n i : Nat) (acc : List ByteArray), i + n = wa.length → acc = timesW (wa.take i) wb → acc.length ≤ 40 * i → Ev (fun k => spec_TimesTrie.l0 k acc wa wb (i : Int)) (madeW (timesW wa wb)) := by
 intro n
 induction n with
 | zero =>
  intro i acc h he hl
  rw [List.take_of_length_le (by omega)] at he
  subst he
  refine Ev.succ ?_
  simp only [spec_TimesTrie.l0]
  exact Ev.neg (by omega) (Ev.bind (spec5 _ (by omega)) (Ev.pure _))
 | succ n ih =>
  intro i acc h he hl
  refine Ev.succ ?_
  simp only [spec_TimesTrie.l0]
  exact Ev.pos (by omega) (times_l1s wa wb ha hb hza hzb i (by omega) _ (fun acc he hl => ih (i + 1) acc (by omega) he hl) wb.length 0 acc (by omega) (by rw [he]; simp) (by omega))
theorem times_l1i (wa wb : List ByteArray) (hvb : VW wb) (ha : wa.length ≤ 40) (hza : ∀ x ∈ wa, x.size ≤ 12) (i : Nat) (hi : i < wa.length) (r : List IN × Bool)
  (hn : ∀ acc, acc = timesW (wa.take (i + 1)) wb → acc.length ≤ 40 * (i + 1) → Ev (fun k => impl_TimesTrie.l0 k acc wa (wa.length : Int) ((i + 1 : Nat) : Int) (trieW wb)) r) : ∀ (n j : Nat) (acc : List ByteArray), j + n = wb.length → acc = timesW (wa.take i) wb ++ (wb.take j).map (fun x => wa[i] ++ x) → acc.length ≤ 40 * i + j →
  Ev (fun k => impl_TimesTrie.l1 k acc wa[i] wa (wa.length : Int) (i : Int) wb (wb.length : Int) (j : Int) (trieW wb)) r := by
 have hb := hvb.len
 intro n
 induction n with
 | zero =>
  intro j acc h he hl
  refine Ev.succ ?_
  simp only [impl_TimesTrie.l1]
  rw [wnext i (by omega)]
  refine Ev.neg (by omega) (hn acc ?_ (by omega))
  rw [he, times_take wa wb hi, show wb.take j = wb from List.take_of_length_le (by omega)]
 | succ n ih =>
  intro j acc h he hl
  have hj : j < wb.length := by omega
  have z1 := hza _ (List.getElem_mem hi)
  have z2 := (hvb.ok _ (List.getElem_mem hj)).1
  refine Ev.succ ?_
  simp only [impl_TimesTrie.l1]
  rw [wnext j (by omega), rd_nat wb hj]
  refine Ev.pos (by omega) (Ev.pos (by omega) (Ev.pos (by omega) (Ev.pos (by omega) (Ev.pos (by omega) (ih (j + 1) _ (by omega) ?_ (by rw [List.length_append, List.length_singleton]; omega))))))
  rw [he, List.take_succ_eq_append_getElem hj, List.map_append, List.append_assoc]; rfl
theorem times_l0i (wa wb : List ByteArray) (hvb : VW wb) (ha : wa.length ≤ 40) (hza : ∀ x ∈ wa, x.size ≤ 12) : ∀ (n i : Nat) (acc : List ByteArray), i + n = wa.length → acc = timesW (wa.take i) wb → acc.length ≤ 40 * i → Ev (fun k => impl_TimesTrie.l0 k acc wa (wa.length : Int) (i : Int) (trieW wb)) (madeW (timesW wa wb)) := by
 intro n
 induction n with
 | zero =>
  intro i acc h he hl
  rw [List.take_of_length_le (by omega)] at he
  subst he
  refine Ev.succ ?_
  simp only [impl_TimesTrie.l0]
  exact Ev.neg (by omega) (Ev.bindc (impl5 _ (by omega)) (Ev.pure _))
 | succ n ih =>
  intro i acc h he hl
  have hi : i < wa.length := by omega
  refine Ev.succ ?_
  simp only [impl_TimesTrie.l0]
  rw [rd_nat wa hi]
  exact Ev.pos (by omega) (Ev.pos (by omega) (Ev.pos (by omega) (Ev.bind (implWords hvb) (times_l1i wa wb hvb ha hza i hi _ (fun acc he hl => ih (i + 1) acc (by omega) he hl) wb.length 0 acc (by omega) (by rw [he]; simp) (by omega)))))
theorem both_TimesTrie (l0 l1 : List IN) : ∃ r, Ev (fun k => spec_TimesTrie.f k l0 l1) r ∧ Ev (fun k => impl_TimesTrie.f k l0 l1) r ∧ r.1.length ≤ 1048576 := by
 unfold spec_TimesTrie.f impl_TimesTrie.f
 have h2 := two_ev l0 l1
 rcases two_cases l0 l1 with hf | ⟨wa, wb, hva, hvb, rfl, rfl, ha, hb⟩
 ·rw [hf] at h2
  refine ⟨([], false), Ev.bind h2 (Ev.neg (by decide) (Ev.pure _)), ?_, by decide⟩
  rcases two_no hf with ha | ⟨ha, hb⟩
  ·refine Ev.bind (implT _ ha) (Ev.neg (by decide) (Ev.succ ?_))
   simp only [impl_TimesTrie.j0]
   exact Ev.pos (by simp) (Ev.pure _)
  ·refine Ev.bind (implT _ ha) (Ev.pos rfl (Ev.bind (implT _ hb) (Ev.succ ?_)))
   simp only [impl_TimesTrie.j0]
   exact Ev.pos (by simp) (Ev.pure _)
 ·rw [ha, hb] at h2
  have a3 := hva.len
  have b3 := hvb.len
  refine ⟨madeW (timesW wa wb), Ev.bind h2 (Ev.pos rfl (Ev.bind (specWords hva) (Ev.bind (specWords hvb) ?_))), ?_, madeW_le _⟩
  ·exact times_l0s wa wb (by omega) (by omega) (fun x hx => (hva.ok x hx).1) (fun x hx => (hvb.ok x hx).1) wa.length 0 [] (by omega) rfl (Nat.le_refl _)
  ·refine Ev.bind (implT _ ha) (Ev.pos rfl (Ev.bind (implT _ hb) (Ev.succ ?_)))
   simp only [impl_TimesTrie.j0]
   exact Ev.neg (by simp) (Ev.bind (implWords hva) (times_l0i wa wb hvb (by omega) (fun x hx => (hva.ok x hx).1) wa.length 0 [] (by omega) rfl (Nat.le_refl _)))
theorem pure_FnExactTimesTrie (l0 : List LN) (l1 : List LN) (hl_l0 : l0.length ≤ maxLen) (hI_l0 : ∀ x ∈ l0, I64 x.f0 ∧ I64 x.f1) (hl_l1 : l1.length ≤ maxLen) (hI_l1 : ∀ x ∈ l1, I64 x.f0 ∧ I64 x.f1) : ∃ k, laws_FnExactTimesTrie.f k l0 l1 = some true := by
 refine Ev.ex ?_
 unfold laws_FnExactTimesTrie.f
 by_cases h_l0 : l0.length ≤ 1048576
 case neg => exact Ev.bindc (szTrie_eq l0 (by unfold maxLen at hl_l0; omega)) (by rw [if_neg h_l0]; exact Ev.pos (by decide) (Ev.pure _))
 refine Ev.bindc (szTrie_eq l0 (by unfold maxLen at hl_l0; omega)) ?_
 rw [if_pos h_l0]
 refine Ev.neg (by omega) ?_
 have ht_l0 := toTrie_ev l0 (by omega)
 have hc_l0 : (cv l0).length ≤ 1048576 := by rw [cv_length]; omega
 rw [show (1048576 - (l0.length : Int)) = ((1048576 - l0.length : Nat) : Int) by omega]
 by_cases h_l1 : l1.length ≤ 1048576 - l0.length
 case neg => exact Ev.bindc (szTrie_gen l1 _ (by unfold maxLen at hl_l1; omega) (by omega)) (by rw [if_neg h_l1]; exact Ev.pos (by decide) (Ev.pure _))
 refine Ev.bindc (szTrie_gen l1 _ (by unfold maxLen at hl_l1; omega) (by omega)) ?_
 rw [if_pos h_l1]
 refine Ev.neg (by omega) ?_
 have ht_l1 := toTrie_ev l1 (by omega)
 have hc_l1 : (cv l1).length ≤ 1048576 := by rw [cv_length]; omega
 obtain ⟨r, e1, e2, hr⟩ := both_TimesTrie (cv l0) (cv l1)
 have hq := eqTrie_ev r.1 r.1 hr
 refine (Ev.bind ht_l0 (Ev.bind ht_l1 (Ev.bind e1 (Ev.bind ht_l0 (Ev.bind ht_l1 (Ev.bind e2 (Ev.bind hq (Ev.pos (by simp) (Ev.succ ?_)))))))))
 simp only [laws_FnExactTimesTrie.j0]
 obtain ⟨m0, hm0⟩ := markTrie2_ev (cv l0) 1 hc_l0 (by omega)
 obtain ⟨m1, hm1⟩ := markTrie2_ev (cv l1) (1 + 3 * (cv l0).length) hc_l1 (by omega)
 refine Ev.neg (by simp) (Ev.bind ht_l0 (Ev.bind (eqTrie_ev _ _ hc_l0) (Ev.pos (by simp) (Ev.bind ht_l1 (Ev.bind (eqTrie_ev _ _ hc_l1) (Ev.pos (by simp) (Ev.bind hm0 (Ev.bind hm1 (Ev.neg (by simp only; omega) (Ev.bind hq (Ev.pos (by simp) (Ev.succ ?_))))))))))))
 simp only [laws_FnExactTimesTrie.j1]
 obtain ⟨ms, hs1, hs2⟩ := markH_ev r.1 hr
 refine Ev.neg (by simp) (Ev.bind hs1 (Ev.bind hs2 (Ev.neg (by omega) (Ev.pos rfl (Ev.bind ht_l0 (Ev.bind ht_l1 (Ev.bind e2 (Ev.bind hq (Ev.pos (by simp) (Ev.succ ?_))))))))))
 simp only [laws_FnExactTimesTrie.j2]
 exact Ev.neg (by simp) (Ev.bind hs2 (Ev.neg (by omega) (Ev.pos rfl (Ev.pure _))))
end Go.Proofs.YtefcbnlljpdjnaaDoor.Q
namespace Go.Proofs.YtefcbnlljpdjnaaDoor.Pure
theorem FnExactTimesTrie (l0 : List Q.LN) (l1 : List Q.LN) (hl_l0 : l0.length ≤ maxLen) (hI_l0 : ∀ x ∈ l0, Q.I64 x.f0 ∧ Q.I64 x.f1) (hl_l1 : l1.length ≤ maxLen) (hI_l1 : ∀ x ∈ l1, Q.I64 x.f0 ∧ Q.I64 x.f1) : ∃ k, Q.laws_FnExactTimesTrie.f k l0 l1 = some true := Q.pure_FnExactTimesTrie l0 l1 hl_l0 hI_l0 hl_l1 hI_l1
end Go.Proofs.YtefcbnlljpdjnaaDoor.Pure
namespace Go.Proofs.YtefcbnlljpdjnaaDoor.fnExactTimesTrie
open Go.ChangeShapes Go.WideShapes Go.ChangeAt Go.RowKit
open Go.ChangeMaps (open_string shut_string)
set_option linter.unusedVariables false
theorem own : ownKnob Tryd.prog.godebug = none := by kernel_rfl
theorem laidOut : laidOutB Tryd.prog = true := by kernel_rfl
set_option maxRecDepth 100000 in
theorem lifted (os : Os) (started : os.Started) (H : Type) (enc : TypeId × Value → H) :
    ReturnsInHanded {} Tryd.checked os 9 .any (fun w args => (Rows.fnExactTimesTrieSpec.pre enc Tryd.prog Tryd.f9 Rows.fnExactTimesTrieRow.domain false w args ∧ laidMetH Tryd.prog Rows.fnExactTimesTrieRow.laid w) ∧ sizedMet enc Tryd.prog Tryd.f9 (OpenSpec.ofChange Rows.fnExactTimesTrieSpec) false w args) (Rows.fnExactTimesTrieSpec.post enc Tryd.prog Tryd.f9 false true false false) := by
  refine returnsInHanded_of_change_and (C := Tryd.checked) (X := fun w _ => laidMetH Tryd.prog Rows.fnExactTimesTrieRow.laid w) (fun _ _ _ hh h => h.of_heap hh) own started (by kernel_rfl) Tryd.func9
    (ChangeSpec.witness_shaped (enc := enc) (C := Tryd.checked) (os := os) (X := fun w _ => laidMetH Tryd.prog Rows.fnExactTimesTrieRow.laid w) false (World.laidAll Tryd.prog os Rows.fnExactTimesTrieRow.laid) #[.agg #[.slice none 0 0], .agg #[.slice none 0 0]] 8 (World.laidAll_os _ _ _)
      (World.shaped_of_ZipB (by kernel_rfl) (by kernel_rfl)) (by kernel_rfl) (by kernel_rfl) (by kernel_rfl)
      (by rw [MakeChecks.laidMetH_plain _ _ _ (by kernel_rfl)]; exact laidMet_laidAll _ (by kernel_rfl) (by kernel_rfl))) ?_
  intro W base args ds gs before hval0 hW hcnd hsz0 hL _
  have hsz : (DataW.weightsEach Tryd.prog (Tryd.f9.params.toList ++ Rows.fnExactTimesTrieSpec.plain.varTypes Tryd.prog) (ds ++ gs)).all (· ≤ reachBytes) = true := hsz0
  have hval : ∀ (j : Nat) t v, Tryd.f9.params[j]? = some t → args[j]? = some v → Value.okWide Tryd.prog W .any base t v := hval0
  have hW' := hW
  obtain ⟨p, q, hA0, hV, rfl, hfz, hnd⟩ := hW
  have hA : DataW.TrodAll enc Tryd.prog W 0 (fun _ => true) true Tryd.f9.params.toList args.toList ds p := hA0
  rw [Tryd.params9] at hA hval hsz
  obtain ⟨v0, vs0, d0, ds0, p0, q0, hargs, rfl, rfl, h0, r0⟩ := trodAll_cons hA
  obtain ⟨v1, vs1, d1, ds1, p1, q1, rfl, rfl, rfl, h1, r1⟩ := trodAll_cons r0
  obtain ⟨rfl, rfl, rfl⟩ := trodAll_nil r1
  obtain rfl : args = #[v0, v1] := by cases args; simp_all
  obtain ⟨rfl, rfl⟩ := trodVars_none hV
  have k0 := h0
  have lt0 : ∀ x ∈ p0, x.block < W.heap.size := by obtain ⟨m, hm⟩ := k0; exact DataW.trod_lt m _ _ _ hm
  obtain ⟨A0, c0, l0, rfl, hC0, hc0, hl0, hI0⟩ := Q.open_trie (hval 0 36 v0 rfl rfl) h0
  have k1 := h1
  have lt1 : ∀ x ∈ p1, x.block < W.heap.size := by obtain ⟨m, hm⟩ := k1; exact DataW.trod_lt m _ _ _ hm
  obtain ⟨A1, c1, l1, rfl, hC1, hc1, hl1, hI1⟩ := Q.open_trie (hval 1 36 v1 rfl rfl) h1
  clear hA0 hval0 hsz0 hsz
  obtain ⟨k, hk⟩ := Pure.FnExactTimesTrie l0 l1 hl0 hI0 hl1 hI1
  refine (Q.laws_FnExactTimesTrie.calls k A0 c0 l0 A1 c1 l1 true W hC0 hc0 hC1 hc1 hk).mono fun e W' ⟨he, bel0⟩ => ?_
  have bel : Below W.heap.size W W' := bel0
  subst he
  exact ⟨_, rfl, _, _, _, [], _, [], hW', trodAll_mk1 (shut_bool Tryd.underlying4 _), (trodAll_cons_mk (Below.trod laidOut (by kernel_rfl) (of_decide_eq_true (by kernel_rfl)) k0 bel lt0) (trodAll_cons_mk (Below.trod laidOut (by kernel_rfl) (of_decide_eq_true (by kernel_rfl)) k1 bel lt1) trodAll_mk0)), rfl, bel.frame _, fun h => by cases h⟩
theorem over : Rows.fnExactTimesTrieRow.holds Tryd.pinned (OpenSpec.ofChange Rows.fnExactTimesTrieSpec) :=
  OpenClaim.holds_of_wide 9 Tryd.f9 rfl rfl rfl rfl rfl rfl rfl ⟨rfl, rfl, rfl, rfl, rfl⟩ rfl rfl rfl rfl rfl (by kernel_rfl) Tryd.func9 (by kernel_rfl)
    (of_decide_eq_true (by kernel_rfl)) (by unfold Func.isWrapper; first | (rw [if_pos (by decide +kernel)]; kernel_rfl) | (rw [if_neg (by decide +kernel)]; exact ⟨rfl, rfl⟩))
    (fun os started H enc _ => lifted os started H enc)
set_option maxRecDepth 100000 in
theorem proved : Rows.FnExactTimesTrieCardSaid :=
  Claim7.holds_tied_plain_at .later [] [.data, .pinned] true (true, "bdcb3db80251c561bbc8334c7731308294adf86d7be7bd4d1a885b00a83deeb2") false over (fun _ h => by cases h) (by kernel_rfl) (fun _ h => by cases h) fnExactTimesTrie_row_tie rfl ⟨rfl, rfl⟩ (by kernel_rfl) rfl
    (fun f fn hf hfn => by
      obtain rfl : f = 9 := Option.some.inj ((show Tryd.prog.funcNamed Tryd.f9.name = some 9 by kernel_rfl).symm.trans hf) |>.symm
      obtain rfl : fn = Tryd.f9 := (Option.some.inj (Tryd.func9.symm.trans hfn)).symm
      exact ⟨by kernel_rfl, fun j t ht => by
        rw [Tryd.params9] at ht
        have hm : t ∈ [36, 36] := by simpa using Array.mem_of_getElem? ht
        have hall : ([36, 36].all fun u => !Tryd.prog.wantsStandIn u) = true := by kernel_rfl
        exact (show Tryd.prog.wantsStandIn t = false by simpa using List.all_eq_true.1 hall t hm)⟩)
    (by kernel_rfl)
end Go.Proofs.YtefcbnlljpdjnaaDoor.fnExactTimesTrie
namespace Go.Proofs.YtefcbnlljpdjnaaDoor
theorem fnExactTimesTrie_holds : Rows.FnExactTimesTrieCardSaid := fnExactTimesTrie.proved
end Go.Proofs.YtefcbnlljpdjnaaDoor
