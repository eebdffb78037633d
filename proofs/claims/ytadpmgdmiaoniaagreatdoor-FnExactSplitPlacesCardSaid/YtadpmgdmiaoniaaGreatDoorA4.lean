/- Texts of one proof put together: walks of the program's functions, and plain laws on what they compute. -/
import Derived.Test.YtadpmgdmiaoniaaGreatDoorA0
import Derived.Test.YtadpmgdmiaoniaaGreatDoorA1
import Derived.Test.YtadpmgdmiaoniaaGreatDoorA2
import Derived.Test.YtadpmgdmiaoniaaGreatDoorA3
import Derived.Test.YtadpmgdmiaoniaaGreatDoorAwWords
import Derived.Test.YtadpmgdmiaoniaaGreatDoorAwLast
import Derived.Test.YtadpmgdmiaoniaaGreatDoorAwTab
import Derived.Test.YtadpmgdmiaoniaaGreatDoorAwApart
import Derived.Test.YtadpmgdmiaoniaaGreatDoorAwFoot
import Derived.Test.YtadpmgdmiaoniaaGreatDoorAwKept
import Derived.Test.YtadpmgdmiaoniaaGreatDoorAwShare
import Derived.Test.YtadpmgdmiaoniaaGreatDoorAwN
import Derived.Test.YtadpmgdmiaoniaaGreatDoorAwEqStruct
import Derived.Test.YtadpmgdmiaoniaaGreatDoorAwRepsOne
import Derived.Test.YtadpmgdmiaoniaaGreatDoorAwGuard
import Derived.Test.YtadpmgdmiaoniaaGreatDoorAwMore
import Derived.Test.YtadpmgdmiaoniaaGreatDoorProg
import Derived.Below
import Derived.Deep.Draws
import Derived.Deep.AppendLies
import Derived.Maps.AppendAt
import Derived.OwnWalk
import Derived.Laws.BytesArg
import Derived.Laws.MakeOwn
import Derived.Laws.OwnMore
import Derived.Deep.OwnRows
import Derived.Tactics
import Derived.Lib.ConvBytes
import Derived.Laws.Slices
import Derived.WalkKit
import Derived.KernelRfl
import Derived.RowKit3
import Derived.Deep.LoopGhost
import Derived.Deep.QuietTactic
import Derived.BigQuiet
import Derived.WideLaws
import Derived.Deep.DeepCutAuto
import Derived.Deep.CutBlock
import Derived.Deep.RegionHeld3
import Derived.Laws.Rows
import Derived.Lib.AppendStr
import Derived.ArgAppend
import Derived.Laws.IdiomCopy
import Derived.OrdersHeld
import Derived.Laws.BitsLemmas
import Derived.RowKit
import Derived.Sort.Walk0
import Derived.Lib.Strings
import Derived.Lib.SlicesCompact
import Derived.Shelf.Strings.SlTrimAscii
import Derived.Ground.NamesProg
import Derived.Ground.SlgfProg
import Derived.Maps.Own
import Derived.StringKeys
import Derived.Maps.OwnOps
import Derived.Maps.OwnSet
import Derived.Maps.Views
import Derived.Laws.AppendOwn
import Derived.Deep.DrawnRows
import Derived.Shelf.Sort.Plain
import Derived.Shelf.Slices.CompactS
import Derived.Shelf.Slices.In.SortNone
import Derived.RangeFuncBox
import Derived.RangeFuncLeaves
import Derived.Shelf.Abstract
import Derived.OwnWalkIn
import Derived.TacticsInMore
import Derived.LoopNIn
import Derived.LoopIn
import Derived.Lib.OwnBridge
import Derived.Sort.OwnSorted
import Derived.Sort.Grow
import Derived.Shelf.Strings.OnBuilder
import Derived.Shelf.SlicesE.DeleteFunc
import Derived.Lib.SliceRun
import Derived.Sort.OwnSortedInts
set_option linter.unusedVariables false
set_option linter.unusedSimpArgs false
namespace Go.Proofs.YtadpmgdmiaoniaaGreatDoor.Q
open Go.RowKit Go.Proofs.YtadpmgdmiaoniaaGreatDoorW.PrintWords Go.Proofs.YtadpmgdmiaoniaaGreatDoorW.PrintLast
def qm : ByteArray := ⟨#[63]⟩
def prefX : Nat → List IN → Int → ByteArray → ByteArray
  | 0, _, node, s => if node = 0 then s else qm
  | n + 1, l, node, s =>
    if node > 0 then
      (if 0 ≤ (rd_T70 l node).f0 ∧ (rd_T70 l node).f0 ≤ 25 then
        (if (rd_T70 l node).f1 ≥ node then qm else prefX n l (rd_T70 l node).f1 (letterW (rd_T70 l node).f0 ++ s)) else qm)
    else if node = 0 then s else qm
theorem prefix_l0 (l : List IN) : ∀ (n : Nat) (node : Int) (s : ByteArray), node < l.length → s.size + n = 13 → Ev (fun k => spec_l2Prefix.l0 k node s l) (prefX n l node s) := by
  intro n
  induction n with
  | zero =>
    intro node s hn hs
    refine Ev.succ ?_
    simp only [spec_l2Prefix.l0, prefX]
    have key : Ev (fun k => spec_l2Prefix.j1 k node s false l) (if node = 0 then s else qm) := by
      refine Ev.succ ?_
      simp only [spec_l2Prefix.j1]
      refine Ev.neg (by decide) ?_
      by_cases h0 : node = 0
      · rw [if_pos h0, if_pos h0]; exact Ev.pure _
      · rw [if_neg h0, if_neg h0]; exact Ev.pure _
    have e : decide ((s.size : Int) ≤ 12) = false := decide_eq_false (by omega)
    rw [e]
    by_cases h : node > 0
    · exact Ev.pos h key
    · exact Ev.neg h key
  | succ n ih =>
    intro node s hn hs
    refine Ev.succ ?_
    simp only [spec_l2Prefix.l0, prefX]
    by_cases h : node > 0
    · rw [if_pos h]
      refine Ev.pos h (Ev.succ ?_)
      simp only [spec_l2Prefix.j1, l1In_eq, Option.bind_some]
      refine Ev.pos (decide_eq_true (by omega)) (Ev.pos (by omega) (Ev.pos hn ?_))
      by_cases h2 : 0 ≤ (rd_T70 l node).f0 ∧ (rd_T70 l node).f0 ≤ 25
      · rw [if_pos h2]
        refine Ev.pos (decide_eq_true h2) ?_
        by_cases h3 : (rd_T70 l node).f1 ≥ node
        · rw [if_pos h3]; exact Ev.pos h3 (Ev.pure _)
        · rw [if_neg h3]
          have hls := letterW_size (rd_T70 l node).f0
          unfold letterW at hls
          refine Ev.neg h3 (Ev.pos (by rw [hls]; omega) ?_)
          refine ih _ _ (by omega) ?_
          rw [size_app, hls]
          omega
      · rw [if_neg h2]
        exact Ev.neg (fun hf => h2 (of_decide_eq_true hf)) (Ev.pure _)
    · rw [if_neg h]
      refine Ev.neg h (Ev.succ ?_)
      simp only [spec_l2Prefix.j1]
      refine Ev.neg (by decide) ?_
      by_cases h0 : node = 0
      · rw [if_pos h0, if_pos h0]; exact Ev.pure _
      · rw [if_neg h0, if_neg h0]; exact Ev.pure _
theorem prefix_ev (l : List IN) (node : Int) (h : node < l.length) : Ev (fun k => spec_l2Prefix.f k l node) (prefX 13 l node ByteArray.empty) := by
  unfold spec_l2Prefix.f
  exact prefix_l0 l 13 node ByteArray.empty h rfl
def wordsX (l : List IN) : List Nat → List ByteArray
  | [] => []
  | i :: r => if (rd_T70 l (i : Int)).f2 = true then prefX 13 l (i : Int) ByteArray.empty :: wordsX l r else wordsX l r
theorem words_l0X (l : List IN) (hl : l.length ≤ 1048576) : ∀ (n i : Nat) (acc : List ByteArray), i + n = l.length → acc.length ≤ i → Ev (fun k => spec_l2Words.l0 k acc (i : Int) l) (acc ++ wordsX l (List.range' i n)) := by
  intro n
  induction n with
  | zero =>
    intro i acc h ha
    refine Ev.succ ?_
    simp only [spec_l2Words.l0, List.range'_zero, wordsX, List.append_nil]
    exact Ev.neg (by omega) (Ev.pure _)
  | succ n ih =>
    intro i acc h ha
    refine Ev.succ ?_
    simp only [spec_l2Words.l0, List.range'_succ, wordsX]
    refine Ev.pos (by omega) (Ev.pos (by omega) ?_)
    rw [wnext i (by omega)]
    by_cases e : (rd_T70 l (i : Int)).f2 = true
    · rw [if_pos e]
      refine Ev.pos e (Ev.bind (prefix_ev l (i : Int) (by omega)) (Ev.pos (by omega) ?_))
      have := ih (i + 1) (acc ++ [prefX 13 l (i : Int) ByteArray.empty]) (by omega) (by simp; omega)
      simpa using this
    · rw [if_neg e]
      exact Ev.neg e (ih (i + 1) acc (by omega) (by omega))
def wordsS (l : List IN) : List ByteArray := wordsX l (List.range' 0 l.length)
theorem wordsS_ev (l : List IN) (hl : l.length ≤ 1048576) : Ev (fun k => spec_l2Words.f k l) (wordsS l) := by
  unfold spec_l2Words.f
  have := words_l0X l hl l.length 0 [] (by omega) (Nat.le_refl _)
  simpa [wordsS] using this
theorem wordsX_length (l : List IN) : ∀ r, (wordsX l r).length ≤ r.length
  | [] => Nat.le_refl _
  | i :: r => by
    have := wordsX_length l r
    simp only [wordsX]
    split <;> simp <;> omega
theorem prefX_trie (ws : List ByteArray) (ho : ∀ w ∈ ws, okWord w) : ∀ (n i : Nat) (s : ByteArray), i < (prefW ws).length → (rdOf ByteArray.empty (prefW ws) (i : Int)).size < n → prefX n (trieW ws) (i : Int) s = rdOf ByteArray.empty (prefW ws) (i : Int) ++ s := by
  intro n
  induction n with
  | zero => intro i s _ h; exact absurd h (Nat.not_lt_zero _)
  | succ n ih =>
    intro i s hi hs
    simp only [prefX]
    by_cases h0 : 0 < i
    · have hi2 : i < (trieW ws).length := by rw [trieW_length]; exact hi
      rw [if_pos (by omega), rd_nat' _ i hi2, trieW_at ws hi]
      obtain ⟨j, hj, e0, e1, e2, e3, e4⟩ := node_at ws ho h0 hi
      rw [if_pos ⟨e2, e3⟩, e1, if_neg (by omega), ih j _ (by omega) ?_]
      · apply lw_inj
        rw [lw_app, lw_app, ← List.append_assoc, ← lw_app, e4, lw_app]
      · rw [e0, ByteArray.size_extract]
        have := prefW_nonzero ws h0 hi
        omega
    · obtain rfl : i = 0 := by omega
      rw [if_neg (by omega), if_pos (by omega)]
      have := prefW_zero ws
      rw [show ((0 : Nat) : Int) = 0 from rfl, this]
      apply lw_inj
      rw [lw_app]; rfl
theorem app_empty (a : ByteArray) : a ++ ByteArray.empty = a := lw_inj (by rw [lw_app]; exact List.append_nil _)
theorem prefX_trie13 {ws : List ByteArray} (ho : ∀ w ∈ ws, okWord w) {i : Nat} (hi : i < (prefW ws).length) : prefX 13 (trieW ws) (i : Int) ByteArray.empty = rdOf ByteArray.empty (prefW ws) (i : Int) := by
  have hm : rdOf ByteArray.empty (prefW ws) (i : Int) ∈ prefW ws := by rw [rd_nat _ hi]; exact List.getElem_mem hi
  have := (prefW_ok ho hm).1
  rw [prefX_trie ws ho 13 i _ hi (by omega), app_empty]
theorem wordsX_trie {ws : List ByteArray} (ho : ∀ w ∈ ws, okWord w) : ∀ (n i : Nat), i + n = (prefW ws).length → wordsX (trieW ws) (List.range' i n) = ((prefW ws).drop i).filter fun p => hasW ws p := by
  intro n
  induction n with
  | zero =>
    intro i h
    rw [List.drop_of_length_le (by omega)]
    rfl
  | succ n ih =>
    intro i h
    have hi : i < (prefW ws).length := by omega
    have hi2 : i < (trieW ws).length := by rw [trieW_length]; exact hi
    rw [List.range'_succ, List.drop_eq_getElem_cons hi, List.filter_cons]
    simp only [wordsX]
    rw [rd_nat' _ i hi2, trieW_at ws hi, prefX_trie13 ho hi, ih (i + 1) (by omega), rd_nat _ hi]
    have e : (nodeW (prefW ws) ws (prefW ws)[i]).f2 = hasW ws (prefW ws)[i] := by unfold nodeW; split <;> rfl
    rw [e]
theorem wordsS_trie {ws : List ByteArray} (h : VW ws) : wordsS (trieW ws) = ws := by
  unfold wordsS
  rw [trieW_length, wordsX_trie h.ok _ 0 (by omega), List.drop_zero, filter_ws h.ss]
def isTrieS (l : List IN) : Bool := decide (1 ≤ l.length ∧ l.length ≤ 481) && ((setRes (wordsS l)).2 && decide (trieW (setRes (wordsS l)).1 = l))
theorem trieS_ev (l : List IN) : Ev (fun k => spec_l2Trie.f k l) (isTrieS l) := by
  unfold spec_l2Trie.f isTrieS
  simp only [l1In_eq, Option.bind_some]
  by_cases h : 1 ≤ l.length ∧ l.length ≤ 481
  · rw [decide_eq_true h, Bool.true_and]
    have hwl := wordsX_length l (List.range' 0 l.length)
    rw [List.length_range'] at hwl
    refine Ev.pos (decide_eq_true (by omega)) (Ev.bind (wordsS_ev l (by omega)) (Ev.bind (set_ev _ (by unfold wordsS; omega)) ?_))
    by_cases h2 : (setRes (wordsS l)).2 = true
    · rw [h2, Bool.true_and]
      refine Ev.pos rfl ?_
      have hok : ∀ w ∈ wordsS l, okWord w := by
        unfold setRes at h2
        split at h2
        · assumption
        · cases h2
      have e1 : (setRes (wordsS l)).1 = setW (wordsS l) := by unfold setRes; rw [if_pos hok]
      rw [e1]
      have hok2 : ∀ w ∈ setW (wordsS l), okWord w := fun w hw => hok w (mem_setW.1 hw)
      have hl2 := setW_len (wordsS l)
      have hl3 : (wordsS l).length ≤ l.length := hwl
      have hle := prefW_le (setW (wordsS l)) (fun w hw => (hok2 w hw).1)
      exact Ev.bind (of_ev _ hok2 (by omega)) (Ev.bind (same_ev _ _ (by rw [trieW_length]; omega)) (Ev.pure _))
    · rw [Bool.not_eq_true] at h2
      rw [h2, Bool.false_and]
      exact Ev.neg (by decide) (Ev.pure _)
  · rw [decide_eq_false h, Bool.false_and]
    exact Ev.neg (fun hf => h (by have := of_decide_eq_true hf; omega)) (Ev.pure _)
theorem isTrieS_iff (l : List IN) : isTrieS l = true ↔ V l := by
  constructor
  · intro h
    unfold isTrieS at h
    simp only [Bool.and_eq_true, decide_eq_true_eq] at h
    obtain ⟨_, h2, h3⟩ := h
    unfold setRes at h2 h3
    split at h2
    · rename_i hok
      rw [if_pos hok] at h3
      simp only [decide_eq_true_eq] at h2
      exact ⟨_, ⟨setW_ss _, fun w hw => hok w (mem_setW.1 hw), by omega⟩, h3.symm⟩
    · cases h2
  · rintro ⟨ws, h, rfl⟩
    unfold isTrieS
    have h1 := prefW_pos ws
    have h2 := prefW_le ws (fun w hw => (h.ok w hw).1)
    have h3 := h.len
    have e : setRes (wordsS (trieW ws)) = (ws, true) := by
      rw [wordsS_trie h]
      unfold setRes
      rw [if_pos h.ok, setW_of_ss h.ss, decide_eq_true (by omega)]
    rw [e, trieW_length]
    simp
    omega
theorem trie_same (l : List IN) : isTrieS l = isTrieW l := by rw [Bool.eq_iff_iff, isTrieS_iff, isTrieW_iff]
end Go.Proofs.YtadpmgdmiaoniaaGreatDoor.Q
namespace Go.Proofs.YtadpmgdmiaoniaaGreatDoor.Q
open Go.RowKit Go.Proofs.YtadpmgdmiaoniaaGreatDoorW.PrintWords Go.Proofs.YtadpmgdmiaoniaaGreatDoorW.PrintLast
theorem trie_cases (l : List IN) : isTrieW l = false ∨ ∃ ws, VW ws ∧ l = trieW ws ∧ isTrieW l = true := by
  cases h : isTrieW l with
  | false => exact .inl rfl
  | true => obtain ⟨ws, hv, e⟩ := (isTrieW_iff l).1 h; exact .inr ⟨ws, hv, e, rfl⟩
theorem specT (l : List IN) {b : Bool} (h : isTrieW l = b) : Ev (fun k => spec_l2Trie.f k l) b := by rw [← h, ← trie_same]; exact trieS_ev l
theorem implT (l : List IN) {b : Bool} (h : isTrieW l = b) : Ev (fun k => impl_isTrie.f k l) b := h ▸ isTrie_ev l
theorem trie_le {ws : List ByteArray} (h : VW ws) : (trieW ws).length ≤ 481 := by
  have h2 := prefW_le ws (fun w hw => (h.ok w hw).1)
  have h3 := h.len
  rw [trieW_length]
  omega
theorem specWords {ws : List ByteArray} (h : VW ws) : Ev (fun k => spec_l2Words.f k (trieW ws)) ws := by
  have := wordsS_ev (trieW ws) (by have := trie_le h; omega)
  rwa [wordsS_trie h] at this
theorem implWords {ws : List ByteArray} (h : VW ws) : Ev (fun k => impl_Trie_words.f k (trieW ws)) ws := by
  have := words_ev (trieW ws) _ (prefixesW_trie h)
  rwa [wordsW_trie h.ss] at this
theorem wprev (n : Nat) (h : n ≤ 4611686018427387904) : wrap64 ((n : Int) - 1) = (n : Int) - 1 := by unfold wrap64; omega
end Go.Proofs.YtadpmgdmiaoniaaGreatDoor.Q
namespace Go.Proofs.YtadpmgdmiaoniaaGreatDoor.Q
open Go.RowKit Go.Sort Go.Shelf Go.Proofs.YtadpmgdmiaoniaaGreatDoorW.PrintWords Go.Proofs.YtadpmgdmiaoniaaGreatDoorW.PrintLast Go.Proofs.YtadpmgdmiaoniaaGreatDoorW.PrintMore
set_option linter.unusedVariables false
set_option linter.unusedSimpArgs false
def NoHit (l : List ByteArray) (p : ByteArray → Bool) (m : Nat) : Prop := ∀ j, j < m → p (rdOf ByteArray.empty l (j : Int)) = false
def Hit (l : List ByteArray) (p : ByteArray → Bool) (i : Int) : Prop := (i = -1 ∧ NoHit l p l.length) ∨ ∃ m : Nat, i = (m : Int) ∧ m < l.length ∧ p (rdOf ByteArray.empty l (m : Int)) = true ∧ NoHit l p m
theorem any_noHit {l : List ByteArray} {p : ByteArray → Bool} (h : NoHit l p l.length) : l.any p = false := by
 rw [List.any_eq_false]
 intro x hx
 obtain ⟨j, hj, rfl⟩ := List.getElem_of_mem hx
 have := h j hj
 simp [rdOf, hj] at this
 simp [this]
theorem any_ofHit {l : List ByteArray} {p : ByteArray → Bool} {m : Nat} (hm : m < l.length) (h : p (rdOf ByteArray.empty l (m : Int)) = true) : l.any p = true := by
 rw [List.any_eq_true]
 refine ⟨l[m], List.getElem_mem hm, ?_⟩
 simpa [rdOf, hm] using h
theorem Hit.any {l : List ByteArray} {p : ByteArray → Bool} {i : Int} (h : Hit l p i) : decide (0 ≤ i) = l.any p := by
 rcases h with ⟨rfl, h⟩ | ⟨m, rfl, hm, h, _⟩
 ·rw [any_noHit h]; rfl
 ·rw [any_ofHit hm h]; simp
end Go.Proofs.YtadpmgdmiaoniaaGreatDoor.Q
namespace Go.Proofs.YtadpmgdmiaoniaaGreatDoor.Q
open Go.RowKit Go.Sort Go.Shelf Go.Proofs.YtadpmgdmiaoniaaGreatDoorW.PrintWords Go.Proofs.YtadpmgdmiaoniaaGreatDoorW.PrintLast Go.Proofs.YtadpmgdmiaoniaaGreatDoorW.PrintMore
set_option linter.unusedVariables false
def wordsV (l : List IN) : List ByteArray := match prefixesW l with
  | some ps => wordsW l ps
  | none => []
theorem wordsV_trie {ws : List ByteArray} (h : VW ws) : wordsV (trieW ws) = ws := by
 unfold wordsV
 rw [prefixesW_trie h]
 exact wordsW_trie h.ss
theorem trie_split (l : List IN) : isTrieW l = false ∨ ∃ ws, VW ws ∧ l = trieW ws ∧ isTrieW l = true ∧ wordsV l = ws := by
 rcases trie_cases l with h | ⟨ws, hv, rfl, ht⟩
 ·exact .inl h
 ·exact .inr ⟨ws, hv, rfl, ht, wordsV_trie hv⟩
theorem box_at {w : World} {g t : Nat} {v : Value} (h : w.heap[g]? = some (.cells #[v] t (0, 0))) : w.cell? ⟨g, 0, none⟩ = some v := box_cell h
theorem bsz1 {w w2 : World} {o1 : Obj} (h : Below (w.heap.size + 1) (w.alloc o1) w2) : w.heap.size + 1 ≤ w2.heap.size := by simpa using h.size
theorem box_one (w : World) (v1 : Value) (t : Nat) : ∀ W, Below (w.heap.size + 1) (w.alloc (.cells #[v1] t)) W → W.heap[w.heap.size]? = some (.cells #[v1] t (0, 0)) := fun W h => by
 rw [h.block _ (by omega)]
 exact Go.heap_alloc_new w (.cells #[v1] t)
end Go.Proofs.YtadpmgdmiaoniaaGreatDoor.Q
namespace Go.Proofs
open Go.Shelf
def Tryz.lSortI_ren : Go.Shelf.Ren := ⟨fun | 189 => 49 | 125 => 65 | 257 => 64 | 128 => 92 | 129 => 93 | 294 => 83 | 295 => 84 | 296 => 85 | 297 => 86 | 298 => 87 | 299 => 88 | 216 => 89 | 300 => 90 | 301 => 91 | 328 => 105 | 329 => 106 | 330 => 107 | 331 => 108 | 332 => 109 | 215 => 110 | 343 => 117 | n => n, fun | 28 => 38 | 3 => 3 | 46 => 91 | 0 => 0 | 51 => 115 | 53 => 117 | 4 => 4 | 183 => 109 | 182 => 108 | 131 => 105 | 5 => 5 | 9 => 9 | 218 => 126 | 222 => 130 | 228 => 135 | 229 => 136 | n => n, fun | n => n⟩
theorem Tryz.lSortI : Go.Proofs.Lays.n189 Tryz.prog Tryz.lSortI_ren := {
  mixed := by kernel_rfl
  f125 := Tryz.func65.trans (congrArg some (by kernel_rfl))
  f128 := Tryz.func92.trans (congrArg some (by kernel_rfl))
  f129 := Tryz.func93.trans (congrArg some (by kernel_rfl))
  f189 := Tryz.func49.trans (congrArg some (by kernel_rfl))
  f215 := Tryz.func110.trans (congrArg some (by kernel_rfl))
  f216 := Tryz.func89.trans (congrArg some (by kernel_rfl))
  f257 := Tryz.func64.trans (congrArg some (by kernel_rfl))
  f294 := Tryz.func83.trans (congrArg some (by kernel_rfl))
  f295 := Tryz.func84.trans (congrArg some (by kernel_rfl))
  f296 := Tryz.func85.trans (congrArg some (by kernel_rfl))
  f297 := Tryz.func86.trans (congrArg some (by kernel_rfl))
  f298 := Tryz.func87.trans (congrArg some (by kernel_rfl))
  f299 := Tryz.func88.trans (congrArg some (by kernel_rfl))
  f300 := Tryz.func90.trans (congrArg some (by kernel_rfl))
  f301 := Tryz.func91.trans (congrArg some (by kernel_rfl))
  f328 := Tryz.func105.trans (congrArg some (by kernel_rfl))
  f329 := Tryz.func106.trans (congrArg some (by kernel_rfl))
  f330 := Tryz.func107.trans (congrArg some (by kernel_rfl))
  f331 := Tryz.func108.trans (congrArg some (by kernel_rfl))
  f332 := Tryz.func109.trans (congrArg some (by kernel_rfl))
  f343 := Tryz.func117.trans (congrArg some (by kernel_rfl))
  t0 := Tryz.underlying0
  a0 := Tryz.isAgg0
  z0 := Tryz.sizeOf0
  v0 := Tryz.zeroValue0
  t3 := Tryz.underlying3
  a3 := Tryz.isAgg3
  z3 := Tryz.sizeOf3
  v3 := Tryz.zeroValue3
  t4 := Tryz.underlying4
  a4 := Tryz.isAgg4
  z4 := Tryz.sizeOf4
  v4 := Tryz.zeroValue4
  t5 := Tryz.underlying5
  a5 := Tryz.isAgg5
  z5 := Tryz.sizeOf5
  v5 := Tryz.zeroValue5
  t9 := Tryz.underlying9
  a9 := Tryz.isAgg9
  z9 := Tryz.sizeOf9
  v9 := Tryz.zeroValue9
  t28 := Tryz.underlying38
  a28 := Tryz.isAgg38
  z28 := Tryz.sizeOf38
  v28 := Tryz.zeroValue38
  t46 := Tryz.underlying91
  a46 := Tryz.isAgg91
  z46 := Tryz.sizeOf91
  v46 := Tryz.zeroValue91
  t51 := Tryz.underlying115
  a51 := Tryz.isAgg115
  z51 := Tryz.sizeOf115
  v51 := Tryz.zeroValue115
  t53 := Tryz.underlying117
  a53 := Tryz.isAgg117
  z53 := Tryz.sizeOf117
  v53 := Tryz.zeroValue117
  t131 := Tryz.underlying105
  a131 := Tryz.isAgg105
  z131 := Tryz.sizeOf105
  v131 := Tryz.zeroValue105
  t182 := Tryz.underlying108
  a182 := Tryz.isAgg108
  z182 := Tryz.sizeOf108
  v182 := Tryz.zeroValue108
  t183 := Tryz.underlying109
  a183 := Tryz.isAgg109
  z183 := Tryz.sizeOf109
  v183 := Tryz.zeroValue109
  t218 := Tryz.underlying126
  a218 := Tryz.isAgg126
  z218 := Tryz.sizeOf126
  v218 := Tryz.zeroValue126
  t222 := Tryz.underlying130
  a222 := Tryz.isAgg130
  z222 := Tryz.sizeOf130
  v222 := Tryz.zeroValue130
  t228 := Tryz.underlying135
  a228 := Tryz.isAgg135
  z228 := Tryz.sizeOf135
  v228 := Tryz.zeroValue135
  t229 := Tryz.underlying136
  a229 := Tryz.isAgg136
  z229 := Tryz.sizeOf136
  v229 := Tryz.zeroValue136 }
end Go.Proofs
namespace Go.Proofs.YtadpmgdmiaoniaaGreatDoor.Q
open Go.RowKit Go.Sort Go.Shelf Go.Proofs.YtadpmgdmiaoniaaGreatDoorW.PrintWords Go.Proofs.YtadpmgdmiaoniaaGreatDoorW.PrintLast Go.Proofs.YtadpmgdmiaoniaaGreatDoorW.PrintMore
set_option linter.unusedVariables false
def srtI (zs : List Int) : List Int := zs.mergeSort fun x y => decide (x ≤ y)
theorem srtI_length (zs : List Int) : (srtI zs).length = zs.length := List.length_mergeSort _
theorem sort_ints (v : Value) (zs : List Int) (base : Nat) (ok : Nat → Prop) (w : World) (h : Kd.R (Kd.int .i64) 3 w base ok v zs) (hn : zs.length < 4611686018427387904) :
  Calls Tryz.prog 49 #[v] w fun e w' => e = .returned (.tuple #[]) ∧ Kd.R (Kd.int .i64) 3 w' base ok v (srtI zs) ∧ w.grownBy w' v.ownBlock := by
 have ho := Kd.own_of_R h
 have h0 := h.1
 rcases ho.2 with ⟨rfl, hx⟩ | ⟨g, cap, cur, rfl, hbg, hh, h1, h2, h3, h4⟩
 ·have hz : zs = [] := by
   have := ho.1
   cases zs with
   | nil => rfl
   | cons a l => simp at hx
  subst hz
  refine (Any.slices_Sort_int_none Tryz.lSortI none 0 w).mono ?_
  rintro e w' ⟨rfl, rfl⟩
  exact ⟨rfl, by simpa [srtI] using h, ⟨rfl, rfl, rfl, Nat.le_refl _, fun _ _ _ => rfl⟩⟩
 ·have hgl : g < w.heap.size := (Array.getElem?_eq_some_iff.1 hh).1
  refine (Any.slices_Sort_int Tryz.lSortI g 0 cap zs w (holds_of_blockI hh (by rw [Nat.mul_one] at h4; exact h4)) hgl hn).mono ?_
  rintro e w' ⟨rfl, n, os, rfl⟩
  have hs := ownsRow_sortedI (n := n) (os := os) (ts := srtI zs) (srtI_length zs) hbg hh h1 h2 h3
  refine ⟨rfl, Kd.R_of_own ?_ h0, grownBy_sortedI _⟩
  rw [srtI_length]
  exact hs
end Go.Proofs.YtadpmgdmiaoniaaGreatDoor.Q
namespace Go.Proofs.YtadpmgdmiaoniaaGreatDoor.Q
open Go.RowKit Go.Sort Go.Shelf Go.Proofs.YtadpmgdmiaoniaaGreatDoorW.PrintWords Go.Proofs.YtadpmgdmiaoniaaGreatDoorW.PrintLast Go.Proofs.YtadpmgdmiaoniaaGreatDoorW.PrintMore
set_option linter.unusedVariables false
def stP (s x : ByteArray) : Bool := decide (x.size ≠ 0) && begW s x
def rowS (ws : List ByteArray) (s : ByteArray) : List Int := (ws.filter (stP s)).map fun x => (x.size : Int)
def rowAt (ws : List ByteArray) (p : ByteArray) (j : Nat) : List Int := srtI (rowS ws (p.extract j p.size))
def standW (ws : List ByteArray) (p : ByteArray) : List (List Int) := (List.range (p.size + 1)).map (rowAt ws p)
theorem rowS_take (ws : List ByteArray) (s : ByteArray) (k : Nat) (h : k < ws.length) : rowS (ws.take (k + 1)) s = rowS (ws.take k) s ++ (if stP s (rdOf ByteArray.empty ws (k : Int)) then [((rdOf ByteArray.empty ws (k : Int)).size : Int)] else []) := by
 have e : rdOf ByteArray.empty ws (k : Int) = ws[k] := by simp [rdOf, h]
 rw [e]
 unfold rowS
 rw [List.take_succ_eq_append_getElem h, List.filter_append, List.map_append]
 congr 1
 by_cases hs : stP s ws[k] = true
 ·rw [if_pos hs]; simp [hs]
 ·rw [if_neg hs]; simp [hs]
theorem rowS_length (ws : List ByteArray) (s : ByteArray) : (rowS ws s).length ≤ ws.length := by
 unfold rowS; rw [List.length_map]; exact List.length_filter_le _ _
structure Std (G N : Nat) (ws : List ByteArray) (p : ByteArray) (W : World) (cs : List Value) (n : Nat) : Prop where
 box : W.heap[G]? = some (.cells cs.toArray 38 (0, 0))
 len : cs.length = N
 done : ∀ j, j < n → j < N → Kd.R (Kd.int .i64) 3 W (G + 1) (fun _ => True) (cs.getD j undef) (rowAt ws p j)
 rest : ∀ j, n ≤ j → j < N → cs.getD j undef = .slice none 0 0
 apart : ∀ i j k, i < j → j < n → j < N → (cs.getD j undef).ownBlock = some k → (cs.getD i undef).ownBlock ≠ some k
structure Rnd (G n : Nat) (W1 : World) (cs : List Value) (W : World) (v : Value) (xs : List Int) : Prop where
 keep : KeepBut W1 W G none
 box : W.heap[G]? = some (.cells (cs.set n v).toArray 38 (0, 0))
 row : Kd.R (Kd.int .i64) 3 W W1.heap.size (fun _ => True) v xs
theorem Std.move {G N : Nat} {ws : List ByteArray} {p : ByteArray} {W W' : World} {cs : List Value} {n : Nat} (h : Std G N ws p W cs n) (hb : Below W.heap.size W W') : Std G N ws p W' cs n :=
 ⟨(hb.block G (lt_of_heap h.box)).trans h.box, h.len, fun j h1 h2 => Kd.R_below (h.done j h1 h2) hb, h.rest, h.apart⟩
theorem Std.next {G N : Nat} {ws : List ByteArray} {p : ByteArray} {W1 W W' : World} {cs : List Value} {n : Nat} {v : Value} {xs : List Int} (h : Std G N ws p W1 cs n) (hr : Rnd G n W1 cs W v xs) (hn : n < N)
  (hR : Kd.R (Kd.int .i64) 3 W' W1.heap.size (fun _ => True) v (rowAt ws p n)) (hg : W.grownBy W' v.ownBlock) : Std G N ws p W' (cs.set n v) (n + 1) := by
 have hG := lt_of_heap h.box
 have hv : ∀ k, v.ownBlock = some k → W1.heap.size ≤ k := fun k hk => own_base (Kd.R_own hR).choose_spec k hk
 have hs := hr.keep.1
 refine ⟨?_, by rw [List.length_set, h.len], fun j h1 h2 => ?_, fun j h1 h2 => ?_, fun i j k hij h1 h2 => ?_⟩
 ·rw [hg.block G (by omega) (fun e => by have := hv G e.symm; omega)]
  exact hr.box
 ·by_cases hj : j = n
  ·subst hj
   have e : (cs.set j v).getD j undef = v := by simp [List.getD, h.len, hn]
   rw [e]
   exact Kd.R_lower hR (by omega)
  ·have e : (cs.set n v).getD j undef = cs.getD j undef := by simp [List.getD, List.getElem?_set, Ne.symm hj]
   rw [e]
   have hd := h.done j (by omega) h2
   refine Kd.R_mono (Kd.R_move (Kd.R_bound hd) fun k hk => ?_) (fun _ _ => trivial)
   have h3 := hk.2.1
   have h4 := hk.2.2.1
   rw [hg.block k (by omega) (fun e => by have := hv k e.symm; omega)]
   exact hr.keep.2 k h4 (by omega) (by simp)
 ·have e : (cs.set n v).getD j undef = cs.getD j undef := by simp [List.getD, List.getElem?_set, show n ≠ j by omega]
  rw [e]
  exact h.rest j (by omega) h2
 ·have ei : (cs.set n v).getD i undef = cs.getD i undef := by simp [List.getD, List.getElem?_set, show n ≠ i by omega]
  rw [ei]
  by_cases hj : j = n
  ·subst hj
   have e : (cs.set j v).getD j undef = v := by simp [List.getD, h.len, hn]
   rw [e]
   intro hk hk2
   have h3 := hv k hk
   have h4 := (Kd.R_bound (h.done i hij (by omega))).1 k hk2
   omega
  ·have e : (cs.set n v).getD j undef = cs.getD j undef := by simp [List.getD, List.getElem?_set, Ne.symm hj]
   rw [e]
   exact h.apart i j k hij (by omega) h2
theorem Rnd.start {G n N : Nat} {ws : List ByteArray} {p : ByteArray} {W1 : World} {cs : List Value} (h : Std G N ws p W1 cs n) (hn : n < N) : Rnd G n W1 cs W1 (.slice none 0 0) [] := by
 refine ⟨KeepBut.refl _ _ _, ?_, Kd.R_nil _ _ _ _ _⟩
 have e : cs.set n (.slice none 0 0) = cs := by
  apply List.ext_getElem (by simp)
  intro j h1 h2
  by_cases hj : n = j
  ·subst hj
   have := h.rest n (Nat.le_refl _) hn
   simp [List.getD, h2] at this
   simp [this]
  ·simp [List.getElem_set, hj]
 rw [e]
 exact h.box
theorem Rnd.snoc {G n : Nat} {W1 W Wa : World} {cs : List Value} {v v1 : Value} {xs : List Int} {x : Int} (hn : n < cs.length) (hG : G < W1.heap.size) (h : Rnd G n W1 cs W v xs)
  (hR : Kd.R (Kd.int .i64) 3 Wa W1.heap.size (fun _ => True) v1 (xs ++ [x])) (hb : Below W1.heap.size W Wa) : Rnd G n W1 cs (Wa.setCell ⟨G, n, none⟩ v1) v1 (xs ++ [x]) := by
 have hs := hb.size
 have hk := h.keep.1
 refine ⟨⟨by simp; omega, fun k h1 h2 h3 => ?_⟩, ?_, ?_⟩
 ·rw [Below.heap_setCell _ _ _ _ (by simpa using h2), hb.block k h1]
  exact h.keep.2 k h1 h2 h3
 ·have e := blk_put ((hb.block G hG).trans h.box) n v1 rfl
  rw [e]
  simp [List.set_set]
 ·exact Kd.R_mono (Kd.R_move (Kd.R_bound hR) fun k hk => Below.heap_setCell _ _ _ _ (by have := hk.2.1; simp; omega)) (fun _ _ => trivial)
theorem Std.all {G : Nat} {ws : List ByteArray} {p : ByteArray} {W : World} {cs : List Value} {base : Nat} (h : Std G (p.size + 1) ws p W cs (p.size + 1)) (hbase : base ≤ G) (hp : p.size ≤ 60) : Kd.S (Kd.slice 3 (Kd.int .i64)) 38 W base (fun _ => True) (.slice (some ⟨G, 0, none⟩) (p.size + 1) (p.size + 1)) (standW ws p) := by
 have hl : (standW ws p).zipIdx.length = p.size + 1 := by simp [standW]
 have hc := h.len
 refine ⟨fun k => cs.findIdx fun v => decide (v.ownBlock = some k), fun _ _ => trivial, cs, ?_, ?_⟩
 ·rw [hl]
  exact ⟨by show cs.length = (p.size + 1) * 1; omega, .inr ⟨G, p.size + 1, cs.toArray, rfl, hbase, h.box, Nat.le_refl _, by unfold maxLen; omega, by show cs.toArray.size = (p.size + 1) * 1; simp [hc], by show cs.toArray.toList.take ((p.size + 1) * 1) = cs; rw [Nat.mul_one, ← hc]; simp⟩⟩
 ·refine ⟨by show cs.length = _ * 1; rw [hl, hc, Nat.mul_one], fun j q hj => ?_⟩
  have hjl : j < p.size + 1 := by
   have := (List.getElem?_eq_some_iff.1 hj).1
   omega
  have e : (rowAt ws p j, j) = q := by
   rw [List.getElem?_zipIdx, Nat.zero_add] at hj
   simpa [standW, hjl] using hj
  subst e
  have hd := h.done j hjl hjl
  have hcj : j < cs.length := by rw [hc]; exact hjl
  have e : cs.getD j undef = cs[j] := by rw [List.getD_eq_getElem?_getD, List.getElem?_eq_getElem hcj]; rfl
  refine ⟨cs.getD j undef, ?_, ?_⟩
  ·show (cs.drop (j * 1)).take 1 = _
   rw [Nat.mul_one, List.drop_eq_getElem_cons hcj, e]
   rfl
  ·refine Kd.R_lower (Kd.R_of_own (Kd.own_of_R hd) fun k hk => ⟨⟨trivial, fun e2 => ?_⟩, ?_⟩) (by omega)
   ·have h3 := (Kd.R_bound hd).1 k hk
    have e3 : G = k := by simpa [Value.ownBlock] using e2.symm
    omega
   ·show (cs.findIdx fun v => decide (v.ownBlock = some k)) = j
    rw [List.findIdx_eq hcj]
    refine ⟨by rw [← e]; exact decide_eq_true hk, fun i hi => ?_⟩
    have hci : i < cs.length := by omega
    have ei : cs.getD i undef = cs[i] := by rw [List.getD_eq_getElem?_getD, List.getElem?_eq_getElem hci]; rfl
    rw [← ei]
    exact decide_eq_false (h.apart i j k hi hjl hjl hk)
theorem hasPrefix_calls (s x : ByteArray) (h1 : x.size ≤ s.size) (h2 : (s.extract 0 x.size).toList = x.toList) (w : World) : Calls Tryz.prog 48 #[.string s, .string x] w fun e w' => e = .returned (.bool true) ∧ w = w' := by
 have h3 : ((s.extract 0 x.size).toList == x.toList) = true := beq_iff_eq.2 h2
 go_enter Tryz.func48, Tryz.ntmps48
 go_wp2
 go_ret
 exact ⟨rfl, rfl⟩
def impl_Trie_standing.f (l0_0 : List IN) (a1 : ByteArray) : Option (List (List Int)) := if isTrieW l0_0 && decide (a1.size ≤ 60) then some (standW (wordsV l0_0) a1) else none
theorem makeS (n : Nat) (hn : n ≤ 60) : ∀ W : World, (Instr.makeSlice 54 (.int .i64 ((n : Int) + 1)) (.int .i64 ((n : Int) + 1))).run Tryz.prog W = .ok (.slice (some ⟨W.heap.size, 0, none⟩) (n + 1) (n + 1)) (W.alloc (.cells (madeCells #[.slice none 0 0] (n + 1)) 38)) := fun W => by
 have h := print_make_of (P := Tryz.prog) 54 38 (.slice none 0 0) 24 Tryz.underlying54 (by kernel_rfl) rfl (by decide) (n + 1) (by omega) W
 rwa [Int.natCast_add] at h
theorem std_start (w : World) (ws : List ByteArray) (p : ByteArray) (N : Nat) : Std w.heap.size N ws p (w.alloc (.cells (madeCells #[.slice none 0 0] N) 38)) (List.replicate N (.slice none 0 0)) 0 := by
 refine ⟨?_, by simp, fun j h => absurd h (Nat.not_lt_zero _), fun j _ h => by simp [List.getD, h], fun _ j _ _ h => absurd h (Nat.not_lt_zero j)⟩
 have h := World.alloc_heap_new w (.cells (madeCells #[.slice none 0 0] N) 38)
 have e : madeCells #[Value.slice none 0 0] N = (List.replicate N (Value.slice none 0 0)).toArray := by
  apply Array.ext
  ·simp [size_madeCells]
  ·intro i h1 h2
   simp [madeCells, Nat.mod_one]
 rw [e] at h ⊢
 exact h
theorem box_n {W : World} {G n t : Nat} {cs : List Value} {v : Value} (h : W.heap[G]? = some (.cells (cs.set n v).toArray t (0, 0))) (hn : n < cs.length) : W.cell? ⟨G, n, none⟩ = some v ∧ W.frozen? ⟨G, n, none⟩ = false :=
 ⟨by simp [World.cell?, h, hn], by simp [World.frozen?, h]⟩
theorem st_cases (s x : ByteArray) : (stP s x = false ∧ x.toList = []) ∨ (stP s x = false ∧ ¬ x.toList = [] ∧ decide (x.size ≤ s.size) = false) ∨ (stP s x = false ∧ ¬ x.toList = [] ∧ x.size ≤ s.size ∧ ((s.extract 0 x.size).toList == x.toList) = false) ∨ (stP s x = true ∧ ¬ x.toList = [] ∧ x.size ≤ s.size ∧ ((s.extract 0 x.size).toList == x.toList) = true) := by
 by_cases h0 : x.toList = []
 ·have : x.size = 0 := size0_of (by simp [h0])
  exact .inl ⟨by simp [stP, this], h0⟩
 ·have hz : x.size ≠ 0 := fun e => by
   have := (lw_inj (by have := lw_length x; rw [e] at this; rw [List.length_eq_zero_iff.1 this]; rfl) : x = ByteArray.empty)
   subst this
   exact absurd h0 (by simp)
  by_cases h1 : x.size ≤ s.size
  ·cases h2 : ((s.extract 0 x.size).toList == x.toList) with
   | false => exact .inr (.inr (.inl ⟨by have h3 := beq_eq_false_iff_ne.1 h2; simp [stP, begW, h3], h0, h1, rfl⟩))
   | true => exact .inr (.inr (.inr ⟨by have h3 := beq_iff_eq.1 h2; simp [stP, begW, h3, h1, hz], h0, h1, rfl⟩))
  ·exact .inr (.inl ⟨by simp [stP, begW, h1], h0, decide_eq_false h1⟩)
theorem words_far {G B c : Nat} {A : Option Addr} {ok : Nat → Prop} {w1 W : World} {ws : List ByteArray} (h : Kd.R Kd.string 9 w1 B ok (.slice A ws.length c) ws) (hG : G < B) (hk : KeepBut w1 W G none) : Kd.C Kd.string W A ws.length ws :=
 Kd.C_keep ByteArray.empty (Kd.R_reads' h).2.2 hk (Kd.far_own h (fun e => by have := own_base (Kd.R_own h).choose_spec G e.symm; omega))
set_option maxHeartbeats 2000000 in
set_option maxRecDepth 100000 in
theorem impl_Trie_standing.calls (A0_0 : Option Addr) (c0_0 : Nat) (l0_0 : List IN) (a1 : ByteArray) (r : List (List Int)) (w : World) (hr0_0 : Kd.C k70 w A0_0 l0_0.length l0_0) (hc0_0 : l0_0.length ≤ c0_0) (h : impl_Trie_standing.f l0_0 a1 = some r) :
  Calls Tryz.prog 31 #[.agg #[.slice A0_0 l0_0.length c0_0], .string a1] w fun e w' => ∃ v0_ : Value, e = .returned v0_ ∧ Kd.S (Kd.slice 3 (Kd.int .i64)) 38 w' w.heap.size (fun _ => True) v0_ r ∧ Below w.heap.size w w' := by
 unfold impl_Trie_standing.f at h
 rcases trie_split l0_0 with ht0 | ⟨ws, hva, rfl, ht0, hwa⟩
 ·rw [ht0] at h; simp at h
 rw [ht0, hwa, Bool.true_and] at h
 by_cases hp : a1.size ≤ 60
 case neg => simp [hp] at h
 simp only [hp, decide_true, if_true] at h
 obtain rfl := Option.some.inj h
 clear h ht0 hwa
 obtain ⟨k2, hk2⟩ := (implWords hva).ex
 have HK2 := Aside0.mk hk2
 have h40 := hva.len
 have HR0 := Aside0.mk hr0_0
 have HC0 := Aside0.mk hc0_0
 have hmk := makeS a1.size hp
 have HX := Aside0.mk (box_one w (.slice A0_0 (trieW ws).length c0_0) 31)
 have HS0 := Aside0.mk (std_start (w.alloc (.cells #[.slice A0_0 (trieW ws).length c0_0] 31)) ws a1 (a1.size + 1))
 have HB0 := Aside0.mk ((Below.refl w.heap.size w).alloc (Nat.le_refl _) (.cells #[.slice A0_0 (trieW ws).length c0_0] 31))
 clear hva hk2 hr0_0 hc0_0
 go_enter Tryz.func31, Tryz.ntmps31
 go_wp2
 clear hmk
 go_loopw [15] (fun i wr => ∃ (n : Nat) (cs : List Value), n ≤ a1.size + 1 ∧ i = .int .i64 n ∧ Aside0 (Std (w.heap.size + 1) (a1.size + 1) ws a1 wr cs n) ∧ Aside0 (Below (w.heap.size + 1) (w.alloc (.cells #[.slice A0_0 (trieW ws).length c0_0] 31)) wr)) (fun i _ => a1.size + 1 - (intOf i).toNat)
 case atStart => exact ⟨0, _, Nat.zero_le _, rfl, ⟨by simpa using HS0.out⟩, ⟨(Below.refl _ _).alloc (by simp) _⟩⟩
 case round =>
  clear HS0
  obtain ⟨n, cs, hn, rfl, HS, HQ⟩ := hrel
  by_cases hlt : n < a1.size + 1
  ·have hx := box_at (HX.out wr HQ.out)
   have hQs : w.heap.size + 1 ≤ wr.heap.size := bsz1 HQ.out
   go_wp2_with (go_at_call 47; refine (impl_Trie_words.calls k2 A0_0 c0_0 _ ws wr (Kd.C_below HR0.out (HB0.out.trans (HQ.out.mono (by omega)))) HC0.out HK2.out).mono ?_; rintro e w1 ⟨v1, rfl, hr, hb⟩; obtain ⟨A1, c1, rfl⟩ := Kd.R_slice hr; have HR1 := Aside0.mk hr; have HS1 := Aside0.mk (HS.out.move hb); have HQ1 := Aside0.mk (HQ.out.trans (hb.mono (by omega))); have HW1 := Aside0.mk hb.size; clear hr hb)
   have hGs : w.heap.size + 1 < wr.heap.size := lt_of_heap HS.out.box
   go_loopw [21] (fun i wr2 => ∃ (k : Nat) (v : Value), k ≤ ws.length ∧ i = .int .i64 k ∧ Aside0 (Rnd (w.heap.size + 1) n w1 cs wr2 v (rowS (ws.take k) (a1.extract n a1.size))) ∧ Aside0 (Below (w.heap.size + 1) (w.alloc (.cells #[.slice A0_0 (trieW ws).length c0_0] 31)) wr2)) (fun i _ => ws.length - (intOf i).toNat)
   case atStart => exact ⟨0, _, Nat.zero_le _, rfl, ⟨Rnd.start HS1.out hlt⟩, HQ1⟩
   case round =>
    obtain ⟨k, v, hk, rfl, HRd, HQ2⟩ := hrel
    by_cases hlt2 : k < ws.length
    ·obtain ⟨ad, e0, hx1⟩ := Kd.at_string (words_far HR1.out hGs HRd.out.keep) (k : Int) (by omega) (by omega)
     cases e0
     simp only [Int.toNat_natCast] at hx1
     have hnext := rowS_take ws (a1.extract n a1.size) k hlt2
     obtain ⟨wd, hwd⟩ : ∃ wd, wd = rdOf ByteArray.empty ws (k : Int) := ⟨_, rfl⟩
     rw [← hwd] at hx1 hnext
     clear hwd
     have HN := Aside0.mk hnext
     clear hnext
     have hes : (a1.extract n a1.size).size = a1.size - n := by rw [ByteArray.size_extract]; omega
     rcases st_cases (a1.extract n a1.size) wd with ⟨hst, h0⟩ | ⟨hst, h0, h1⟩ | ⟨hst, h0, h1, h2⟩ | ⟨hst, h0, h1, h2⟩
     ·rw [hst] at HN
      clear hst
      go_wp2
      exact ⟨⟨k + 1, v, by omega, by go_num, ⟨by rw [HN.out]; simpa using HRd.out⟩, HQ2⟩, by simp [intOf]; omega⟩
     ·rw [hst] at HN
      rw [hes] at h1
      clear hst hes
      go_wp2
      exact ⟨⟨k + 1, v, by omega, by go_num, ⟨by rw [HN.out]; simpa using HRd.out⟩, HQ2⟩, by simp [intOf]; omega⟩
     ·rw [hst] at HN
      rw [hes] at h1
      clear hes
      have h3 : (!wd.toList.isEmpty && ((a1.extract n a1.size).extract 0 wd.size).toList == wd.toList) = false := by rw [h2, Bool.and_false]
      clear hst h2
      go_wp2
      exact ⟨⟨k + 1, v, by omega, by go_num, ⟨by rw [HN.out]; simpa using HRd.out⟩, HQ2⟩, by simp [intOf]; omega⟩
     ·rw [hst] at HN
      rw [hes] at h1
      clear hes
      have h3 := beq_iff_eq.1 h2
      have h4 : (!wd.toList.isEmpty) = true := by simpa using h0
      have h5 : wd.size ≤ (a1.extract n a1.size).size := by rw [ByteArray.size_extract]; omega
      clear hst h2
      have hcl : n < cs.length := by have := HS1.out.len; omega
      obtain ⟨Av, cv, rfl⟩ := Kd.R_slice HRd.out.row
      obtain ⟨hgc, hgf⟩ := box_n HRd.out.box hcl
      have hrl := rowS_length (ws.take k) (a1.extract n a1.size)
      rw [List.length_take] at hrl
      go_wp2_with (first | (go_at_call 48; refine (hasPrefix_calls _ _ h5 h3 _).mono ?_; rintro e w2 ⟨rfl, rfl⟩) | (at_builtin; refine Kd.R_append (Kd.int .i64) (w0 := wr) w1.heap.size rfl _ _ 38 3 (.int .i64 0) 8 rfl Tryz.underlying38 (by kernel_rfl) rfl (by decide) (by omega) (.slice Av (rowS (ws.take k) (a1.extract n a1.size)).length cv) (rowS (ws.take k) (a1.extract n a1.size)) (wd.size : Int) [.int .i64 wd.size] (fun _ => True) (fun _ => False) rfl ?aX rfl (fun _ hk => hk.elim) (fun _ _ => trivial) HRd.out.row (Below.refl _ _) HRd.out.keep.1 ?aL ?_; (case aX => simp [Act.eval]); (case aL => omega); intro v1 wx hRx hBelx hgx hatx; have HRX := Aside0.mk hRx; have HBX := Aside0.mk hBelx; have hcx := box_n ((hBelx.block _ (lt_of_heap HS1.out.box)).trans HRd.out.box) hcl; have hcx1 := hcx.1; have hcx2 := hcx.2; obtain ⟨Ax, cx, ex⟩ := Kd.R_slice hRx; subst ex; clear hRx hBelx hgx hatx hcx))
      have hw1s := HQ1.out.size
      rw [show (rowS (ws.take k) (a1.extract n a1.size) ++ [(wd.size : Int)]).length = (rowS (ws.take k) (a1.extract n a1.size)).length + 1 by simp] at HRX
      exact ⟨⟨k + 1, _, by omega, by go_num, ⟨by rw [HN.out, if_pos trivial]; exact Rnd.snoc hcl (lt_of_heap HS1.out.box) HRd.out HRX.out HBX.out⟩, ⟨(HQ2.out.trans (HBX.out.mono (by have := lt_of_heap HS1.out.box; omega))).setCell (by simp) _⟩⟩, by simp [intOf]; omega⟩
    ·obtain rfl : k = ws.length := by omega
     rw [List.take_length] at HRd
     have hcl : n < cs.length := by have := HS1.out.len; omega
     obtain ⟨Av, cv, rfl⟩ := Kd.R_slice HRd.out.row
     obtain ⟨hgc, hgf⟩ := box_n HRd.out.box hcl
     have hrl := rowS_length ws (a1.extract n a1.size)
     have HSI := Aside0.mk (sort_ints (.slice Av (rowS ws (a1.extract n a1.size)).length cv) _ _ _ wr HRd.out.row (by omega))
     clear hrl
     go_wp2_with (go_at_call 49; refine HSI.out.mono ?_; rintro e w3 ⟨rfl, hR3, hg3⟩; have HR3 := Aside0.mk hR3; have HG3 := Aside0.mk hg3; clear hR3 hg3)
     exact ⟨⟨n + 1, _, by omega, by go_num, ⟨Std.next HS1.out HRd.out hlt HR3.out HG3.out⟩, ⟨HQ2.out.grown HG3.out (bsz1 HQ2.out) (fun g e => by have := own_base (Kd.R_own HR3.out).choose_spec g e; have := HQ1.out.size; have := lt_of_heap HS1.out.box; omega)⟩⟩, by simp [intOf]; omega⟩
  ·obtain rfl : n = a1.size + 1 := by omega
   go_wp2
   go_ret
   exact ⟨_, rfl, Std.all HS.out (by omega) hp, HB0.out.trans (HQ.out.mono (by omega))⟩
end Go.Proofs.YtadpmgdmiaoniaaGreatDoor.Q
namespace Go.Proofs.YtadpmgdmiaoniaaGreatDoor.Q
open Go.RowKit Go.Proofs.YtadpmgdmiaoniaaGreatDoorW.PrintWords Go.Proofs.YtadpmgdmiaoniaaGreatDoorW.PrintLast
theorem srtI_perm (zs : List Int) : (srtI zs).Perm zs := List.mergeSort_perm zs _
theorem st_size {s x : ByteArray} (h : stP s x = true) : x.size ≤ s.size ∧ (s.extract 0 x.size).toList = x.toList ∧ x.size ≠ 0 := by
  simp only [stP, begW, Bool.and_eq_true, decide_eq_true_eq] at h
  exact ⟨h.2.1, h.2.2, h.1⟩
theorem rdI_nat (l : List Int) {i : Nat} (h : i < l.length) : rd l (i : Int) = l[i] := by simp [rd, h]
theorem rowAt_length {ws : List ByteArray} (hv : VW ws) (p : ByteArray) (a : Nat) : (rowAt ws p a).length ≤ 40 := by
  unfold rowAt
  rw [srtI_length]
  exact Nat.le_trans (rowS_length _ _) hv.len
theorem rowAt_mem {ws : List ByteArray} {p : ByteArray} {a : Nat} {n : Int} (h : n ∈ rowAt ws p a) : 1 ≤ n ∧ n + a ≤ p.size := by
  obtain ⟨x, hx, rfl⟩ := List.mem_map.1 ((srtI_perm _).mem_iff.1 h)
  obtain ⟨h1, h2, h3⟩ := st_size (List.mem_filter.1 hx).2
  rw [ByteArray.size_extract] at h1
  omega
theorem standW_length (ws : List ByteArray) (p : ByteArray) : (standW ws p).length = p.size + 1 := by simp [standW]
theorem stand_at (ws : List ByteArray) (p : ByteArray) (a : Nat) (h : a ≤ p.size) : rd_L9 (standW ws p) (a : Int) = rowAt ws p a := by
  simp [rd_L9, standW, Nat.lt_succ_of_le h]
end Go.Proofs.YtadpmgdmiaoniaaGreatDoor.Q
namespace Go.Proofs.YtadpmgdmiaoniaaGreatDoor.Q
open Go.RowKit Go.Sort Go.Shelf Go.Proofs.YtadpmgdmiaoniaaGreatDoorW.PrintWords Go.Proofs.YtadpmgdmiaoniaaGreatDoorW.PrintLast Go.Proofs.YtadpmgdmiaoniaaGreatDoorW.PrintMore
set_option linter.unusedVariables false
def splitN (a : Nat) (mb : List Int × List Int) (n : Int) : List Int × List Int :=
  if rd mb.1 ((a : Int) + n) = 0 then mb
  else (mb.1.set a (wrap64 (rd mb.1 (a : Int) + rd mb.1 ((a : Int) + n))),
    if rd mb.1 (a : Int) = 0 ∨ wrap64 (rd mb.2 ((a : Int) + n) + 1) < rd mb.2 (a : Int) then mb.2.set a (wrap64 (rd mb.2 ((a : Int) + n) + 1)) else mb.2)
def splitsF (ws : List ByteArray) (p : ByteArray) : Nat → List Int × List Int → List Int × List Int
  | 0, mb => mb
  | a + 1, mb => splitsF ws p a ((rowAt ws p a).foldl (splitN a) mb)
def splits0 (p : ByteArray) : List Int × List Int := ((List.replicate (p.size + 1) 0).set p.size 1, List.replicate (p.size + 1) 0)
def splitsW (ws : List ByteArray) (p : ByteArray) : List Int × List Int := splitsF ws p p.size (splits0 p)
theorem splitN_len (a : Nat) (mb : List Int × List Int) (n : Int) : (splitN a mb n).1.length = mb.1.length ∧ (splitN a mb n).2.length = mb.2.length := by
 unfold splitN
 split
 ·exact ⟨rfl, rfl⟩
 ·refine ⟨by simp, ?_⟩
  simp only
  split <;> simp
theorem foldN_len (a : Nat) : ∀ (row : List Int) (mb : List Int × List Int), (row.foldl (splitN a) mb).1.length = mb.1.length ∧ (row.foldl (splitN a) mb).2.length = mb.2.length
 | [], mb => ⟨rfl, rfl⟩
 | n :: t, mb => by
  have h := splitN_len a mb n
  have ih := foldN_len a t (splitN a mb n)
  exact ⟨ih.1.trans h.1, ih.2.trans h.2⟩
theorem fold_take (a : Nat) (row : List Int) (mb : List Int × List Int) (k : Nat) (h : k < row.length) : (row.take (k + 1)).foldl (splitN a) mb = splitN a ((row.take k).foldl (splitN a) mb) row[k] := by
 rw [List.take_succ_eq_append_getElem h, List.foldl_append]
 rfl
structure Two (w1 W : World) (gm gb L : Nat) (mb : List Int × List Int) : Prop where
 below : Below w1.heap.size w1 W
 many : W.heap[gm]? = some (.cells (nums .i64 mb.1).toArray 3 (0, 0))
 best : W.heap[gb]? = some (.cells (nums .i64 mb.2).toArray 3 (0, 0))
 lm : mb.1.length = L
 lb : mb.2.length = L
 ne : gm ≠ gb
 gem : w1.heap.size ≤ gm
 geb : w1.heap.size ≤ gb
theorem row_cell {W : World} {g : Nat} {m : List Int} (h : W.heap[g]? = some (.cells (nums .i64 m).toArray 3 (0, 0))) (j : Nat) (hj : j < m.length) : W.cell? ⟨g, j, none⟩ = some (.int .i64 (rd m (j : Int))) ∧ W.frozen? ⟨g, j, none⟩ = false := by
 refine ⟨?_, by simp [World.frozen?, h]⟩
 rw [rdI_nat m hj]
 simp [World.cell?, h, nums, hj]
theorem row_put {W : World} {g : Nat} {m : List Int} (h : W.heap[g]? = some (.cells (nums .i64 m).toArray 3 (0, 0))) (j : Nat) (x : Int) : (W.setCell ⟨g, j, none⟩ (.int .i64 x)).heap[g]? = some (.cells (nums .i64 (m.set j x)).toArray 3 (0, 0)) :=
 blk_put h j _ (by simp [nums, List.map_set])
theorem Two.setMany {w1 W : World} {gm gb L : Nat} {m b : List Int} (h : Two w1 W gm gb L (m, b)) (j : Nat) (x : Int) : Two w1 (W.setCell ⟨gm, j, none⟩ (.int .i64 x)) gm gb L (m.set j x, b) :=
 ⟨h.below.setCell h.gem _, row_put h.many j x, by rw [Below.heap_setCell _ _ _ _ (fun e => h.ne e.symm)]; exact h.best, by simpa using h.lm, h.lb, h.ne, h.gem, h.geb⟩
theorem Two.setBest {w1 W : World} {gm gb L : Nat} {m b : List Int} (h : Two w1 W gm gb L (m, b)) (j : Nat) (x : Int) : Two w1 (W.setCell ⟨gb, j, none⟩ (.int .i64 x)) gm gb L (m, b.set j x) :=
 ⟨h.below.setCell h.geb _, by rw [Below.heap_setCell _ _ _ _ h.ne]; exact h.many, row_put h.best j x, h.lm, by simpa using h.lb, h.ne, h.gem, h.geb⟩
theorem made_nums (n : Nat) : madeCells #[Value.int .i64 0] n = (nums .i64 (List.replicate n 0)).toArray := by
 apply Array.ext
 ·simp [size_madeCells, nums]
 ·intro i h1 h2
  simp [madeCells, nums, Nat.mod_one]
theorem made_two (w1 : World) (n : Nat) : ((w1.alloc (.cells (madeCells #[.int .i64 0] n) 3)).alloc (.cells (madeCells #[.int .i64 0] n) 3)).heap[w1.heap.size]? = some (.cells (nums .i64 (List.replicate n 0)).toArray 3 (0, 0)) ∧ ((w1.alloc (.cells (madeCells #[.int .i64 0] n) 3)).alloc (.cells (madeCells #[.int .i64 0] n) 3)).heap[w1.heap.size + 1]? = some (.cells (nums .i64 (List.replicate n 0)).toArray 3 (0, 0)) := by
 have h := World.alloc_heap_new (w1.alloc (.cells (madeCells #[.int .i64 0] n) 3)) (.cells (madeCells #[.int .i64 0] n) 3)
 rw [World.size_alloc] at h
 refine ⟨?_, by rw [← made_nums]; exact h⟩
 rw [((Below.refl (w1.heap.size + 1) (w1.alloc (.cells (madeCells #[.int .i64 0] n) 3))).alloc (by simp) (.cells (madeCells #[.int .i64 0] n) 3)).block _ (by omega), ← made_nums]
 exact World.alloc_heap_new w1 _
theorem Two.start1 (w1 : World) (n : Nat) : Two w1 ((w1.alloc (.cells (madeCells #[.int .i64 0] n) 3)).alloc (.cells (madeCells #[.int .i64 0] n) 3)) w1.heap.size (w1.heap.size + 1) n (List.replicate n 0, List.replicate n 0) :=
 ⟨((Below.refl w1.heap.size w1).alloc (Nat.le_refl _) _).alloc (by simp) _, (made_two w1 n).1, (made_two w1 n).2, by simp, by simp, by omega, Nat.le_refl _, by omega⟩
theorem Two.start2 (w1 : World) (n : Nat) : Two w1 ((w1.alloc (.cells (madeCells #[.int .i64 0] n) 3)).alloc (.cells (madeCells #[.int .i64 0] n) 3)) (w1.heap.size + 1) w1.heap.size n (List.replicate n 0, List.replicate n 0) :=
 ⟨((Below.refl w1.heap.size w1).alloc (Nat.le_refl _) _).alloc (by simp) _, (made_two w1 n).2, (made_two w1 n).1, by simp, by simp, by omega, by omega, Nat.le_refl _⟩
theorem Two.drew {w1 W : World} {gm gb L : Nat} {mb : List Int × List Int} (h : Two w1 W gm gb L mb) : Two w1 W.drew gm gb L mb := ⟨h.below.drew, h.many, h.best, h.lm, h.lb, h.ne, h.gem, h.geb⟩
theorem own_nums {W : World} {g base n : Nat} {m : List Int} {ok : Nat → Prop} (h : W.heap[g]? = some (.cells (nums .i64 m).toArray 3 (0, 0))) (hb : base ≤ g) (hn : m.length = n) (hs : n ≤ 1000) (hok : ok g) : Kd.R (Kd.int .i64) 3 W base ok (.slice (some ⟨g, 0, none⟩) n n) m := by
 subst hn
 refine Kd.R_of_own ⟨by simp [encs], .inr ⟨g, m.length, _, rfl, hb, h, Nat.le_refl _, by unfold maxLen; omega, by simp [nums], by rw [Nat.mul_one]; exact List.take_of_length_le (by simp [nums])⟩⟩ (fun k hk => ?_)
 have e : g = k := by simpa [Value.ownBlock] using hk
 exact e ▸ hok
theorem by_key {G P : Prop} (h : G → P) (g : G) : P := h g
def impl_Trie_splits.f (l0_0 : List IN) (a1 : ByteArray) : Option (List Int × List Int) := if isTrieW l0_0 && decide (a1.size ≤ 60) then some (splitsW (wordsV l0_0) a1) else none
theorem makeI (n : Nat) (hn : n ≤ 60) : ∀ W : World, (Instr.makeSlice 38 (.int .i64 ((n : Int) + 1)) (.int .i64 ((n : Int) + 1))).run Tryz.prog W = .ok (.slice (some ⟨W.heap.size, 0, none⟩) (n + 1) (n + 1)) (W.alloc (.cells (madeCells #[.int .i64 0] (n + 1)) 3)) := fun W => by
 have h := print_make_of (P := Tryz.prog) 38 3 (.int .i64 0) 8 Tryz.underlying38 (by kernel_rfl) rfl (by decide) (n + 1) (by omega) W
 rwa [Int.natCast_add] at h
set_option maxHeartbeats 2000000 in
set_option maxRecDepth 100000 in
theorem impl_Trie_splits.calls (A0_0 : Option Addr) (c0_0 : Nat) (l0_0 : List IN) (a1 : ByteArray) (r1 r2 : List Int) (w : World) (hr0_0 : Kd.C k70 w A0_0 l0_0.length l0_0) (hc0_0 : l0_0.length ≤ c0_0) (h : impl_Trie_splits.f l0_0 a1 = some (r1, r2)) :
  Calls Tryz.prog 36 #[.agg #[.slice A0_0 l0_0.length c0_0], .string a1] w fun e w' => ∃ v0_ v1_ : Value, e = .returned (.tuple #[v0_, v1_]) ∧ Kd.R (Kd.int .i64) 3 w' w.heap.size (fun k_ => some k_ ≠ (v1_ : Value).ownBlock) v0_ r1 ∧ Kd.R (Kd.int .i64) 3 w' w.heap.size (fun k_ => some k_ ≠ (v0_ : Value).ownBlock) v1_ r2 ∧ Below w.heap.size w w' := by
 unfold impl_Trie_splits.f at h
 rcases trie_split l0_0 with ht0 | ⟨ws, hva, rfl, ht0, hwa⟩
 ·rw [ht0] at h; simp at h
 by_cases hp : a1.size ≤ 60
 case neg => simp [hp] at h
 have hsf : impl_Trie_standing.f (trieW ws) a1 = some (standW ws a1) := by unfold impl_Trie_standing.f; rw [ht0, hwa]; simp [hp]
 rw [ht0, hwa, Bool.true_and] at h
 simp only [hp, decide_true, if_true] at h
 have h := Option.some.inj h
 have HE := Aside0.mk h
 clear h ht0 hwa
 have HR0 := Aside0.mk hr0_0
 have HC0 := Aside0.mk hc0_0
 have HSF := Aside0.mk hsf
 have hmk := makeI a1.size hp
 have hwr : IntKind.i64.wrap ((a1.size : Int) + 1) = (a1.size : Int) + 1 := by rw [i64_w]; unfold wrap64; omega
 have HX := Aside0.mk (box_one w (.slice A0_0 (trieW ws).length c0_0) 31)
 have HB0 := Aside0.mk ((Below.refl w.heap.size w).alloc (Nat.le_refl _) (.cells #[.slice A0_0 (trieW ws).length c0_0] 31))
 have hsl := standW_length ws a1
 have hrl : ∀ j, (rowAt ws a1 j).length ≤ 40 := fun j => rowAt_length hva a1 j
 have HRL := Aside0.mk hrl
 clear hrl hva hr0_0 hc0_0 hsf
 go_enter Tryz.func36, Tryz.ntmps36
 go_wp2_with (go_at_call 31; refine (impl_Trie_standing.calls A0_0 c0_0 _ a1 _ _ (Kd.C_below HR0.out HB0.out) HC0.out HSF.out).mono ?_; rintro e w1 ⟨v1, rfl, hr, hb⟩; obtain ⟨A1, c1, rfl⟩ := Kd.S_slice hr; have HS1 := Aside0.mk hr; have HB1 := Aside0.mk (show Below (w.heap.size + 1) _ w1 by simpa using hb); clear hr hb)
 apply by_key
 ·intro key
  go_region_held3 (fun _ => True) (trivial) (fail)
  ·obtain ⟨gm, gb, hgm, hgb, HT⟩ : ∃ gm gb, gm = w1.heap.size ∧ gb = w1.heap.size + 1 ∧ Aside0 (Two w1 ((w1.alloc (.cells (madeCells #[.int .i64 0] (a1.size + 1)) 3)).alloc (.cells (madeCells #[.int .i64 0] (a1.size + 1)) 3)).drew gm gb (a1.size + 1) (List.replicate (a1.size + 1) 0, List.replicate (a1.size + 1) 0)) := ⟨_, _, rfl, rfl, ⟨(Two.start1 w1 (a1.size + 1)).drew⟩⟩
   rw [← hgb, ← hgm]
   clear hgm hgb
   generalize ((w1.alloc (.cells (madeCells #[.int .i64 0] (a1.size + 1)) 3)).alloc (.cells (madeCells #[.int .i64 0] (a1.size + 1)) 3)).drew = W0 at HT ⊢
   revert gm gb W0 HT
   exact key
  ·obtain ⟨gm, gb, hgm, hgb, HT⟩ : ∃ gm gb, gm = w1.heap.size + 1 ∧ gb = w1.heap.size ∧ Aside0 (Two w1 ((w1.alloc (.cells (madeCells #[.int .i64 0] (a1.size + 1)) 3)).alloc (.cells (madeCells #[.int .i64 0] (a1.size + 1)) 3)).drew gm gb (a1.size + 1) (List.replicate (a1.size + 1) 0, List.replicate (a1.size + 1) 0)) := ⟨_, _, rfl, rfl, ⟨(Two.start2 w1 (a1.size + 1)).drew⟩⟩
   rw [← hgm, ← hgb]
   clear hgm hgb
   generalize ((w1.alloc (.cells (madeCells #[.int .i64 0] (a1.size + 1)) 3)).alloc (.cells (madeCells #[.int .i64 0] (a1.size + 1)) 3)).drew = W0 at HT ⊢
   revert gm gb W0 HT
   exact key
 intro gm gb W0 HT
 obtain ⟨hc1, hf1⟩ := row_cell HT.out.many a1.size (by have := HT.out.lm; omega)
 have HT1 := Aside0.mk (HT.out.setMany a1.size 1)
 clear hmk hwr
 go_wp2
 clear hc1 hf1
 go_loopw [9] (fun v wr => ∃ (a : Nat) (m b : List Int), a ≤ a1.size ∧ v = .int .i64 ((a : Int) - 1) ∧ Aside0 (Two w1 wr gm gb (a1.size + 1) (m, b)) ∧ Aside0 (splitsF ws a1 a (m, b) = splitsW ws a1)) (fun v _ => (intOf v + 1).toNat)
 case atStart => exact ⟨a1.size, _, _, Nat.le_refl _, rfl, HT1, ⟨rfl⟩⟩
 case round =>
  clear HT HT1
  obtain ⟨a, m, b, ha, rfl, HT, HF⟩ := hrel
  cases a with
  | zero =>
   go_wp2
   go_ret2
   have hE := HF.out.trans HE.out
   injection hE with hE1 hE2
   subst hE1; subst hE2
   have h0 := HT.out.gem
   have h1 := HT.out.geb
   have h2 := HB1.out.size
   rw [World.size_alloc] at h2
   exact ⟨_, _, rfl, own_nums HT.out.many (by omega) HT.out.lm (by omega) (fun e => HT.out.ne (by simpa [Value.ownBlock] using e)), own_nums HT.out.best (by omega) HT.out.lb (by omega) (fun e => HT.out.ne (by simpa [Value.ownBlock] using e.symm)), HB0.out.trans ((HB1.out.mono (by omega)).trans (HT.out.below.mono (by omega)))⟩
  | succ a =>
   have ea : ((a + 1 : Nat) : Int) - 1 = (a : Int) := by omega
   rw [ea]
   obtain ⟨ad, A2, c2, e1, hcell, hle, hC⟩ := at_L9 (Kd.S_reads' HS1.out).2.2 (a : Int) (by omega) (by omega)
   cases e1
   rw [stand_at ws a1 a (by omega)] at hcell hle hC
   simp only [Int.toNat_natCast] at hcell
   have hx := pw_cell_below HT.out.below hcell
   have HC := Aside0.mk hC
   have HF2 : Aside0 (splitsF ws a1 a ((rowAt ws a1 a).foldl (splitN a) (m, b)) = splitsW ws a1) := HF
   clear hcell hC
   go_wp2
   obtain ⟨row, hrow⟩ : ∃ row, row = rowAt ws a1 a := ⟨_, rfl⟩
   rw [← hrow] at HC HF2 hle ⊢
   have hrl : row.length ≤ 40 := hrow ▸ HRL.out a
   have hmem : ∀ n ∈ row, 1 ≤ n ∧ n + a ≤ a1.size := fun n hn => rowAt_mem (hrow ▸ hn)
   have HM := Aside0.mk hmem
   clear hrow hx hmem ea
   have hl1 := HT.out.lm
   have hl2 := HT.out.lb
   go_loopw [39] (fun i wr => ∃ (k : Nat) (m2 b2 : List Int), k ≤ row.length ∧ i = .int .i64 k ∧ Aside0 (Two w1 wr gm gb (a1.size + 1) (m2, b2)) ∧ Aside0 ((m2, b2) = (row.take k).foldl (splitN a) (m, b))) (fun i _ => row.length - (intOf i).toNat)
   case atStart => exact ⟨0, m, b, Nat.zero_le _, rfl, HT, ⟨rfl⟩⟩
   case round =>
    clear HT
    obtain ⟨k, m2, b2, hk, rfl, HT, HG⟩ := hrel
    by_cases hlt : k < row.length
    ·obtain ⟨ad2, e2, hy⟩ := Kd.at_int (Kd.C_below HC.out HT.out.below) (k : Int) (by omega) (by omega)
     cases e2
     have hnx := fold_take a row (m, b) k hlt
     rw [← HG.out] at hnx
     have hmk := HM.out _ (List.getElem_mem hlt)
     have hrd := rdI_nat row hlt
     rw [hrd] at hy
     simp only [Int.toNat_natCast] at hy
     obtain ⟨q, hq⟩ : ∃ q : Nat, row[k] = (q : Int) := ⟨row[k].toNat, by omega⟩
     rw [hq] at hy hnx hmk
     clear hq hrd
     have hl3 := HT.out.lm
     have hl4 := HT.out.lb
     simp only at hl3 hl4
     obtain ⟨hc1, hf1⟩ := row_cell HT.out.many (a + q) (by simp only; omega)
     obtain ⟨hc2, hf2⟩ := row_cell HT.out.many a (by simp only; omega)
     obtain ⟨hc3, hf3⟩ := row_cell HT.out.best (a + q) (by simp only; omega)
     obtain ⟨hc4, hf4⟩ := row_cell HT.out.best a (by simp only; omega)
     simp only at hc1 hc2 hc3 hc4
     have hwr : IntKind.i64.wrap ((a : Int) + (q : Int)) = ((a + q : Nat) : Int) := by rw [i64_w]; unfold wrap64; omega
     have HN := Aside0.mk hnx
     clear hnx
     by_cases h0 : rd m2 ((a : Int) + (q : Int)) = 0
     ·have h0b := beq_iff_eq.2 h0
      go_wp2
      exact ⟨⟨k + 1, m2, b2, by omega, by go_num, HT, ⟨by rw [HN.out, splitN, if_pos h0]⟩⟩, by simp [intOf]; omega⟩
     ·have h0b := beq_eq_false_iff_ne.2 h0
      by_cases h1 : rd m2 (a : Int) = 0
      ·have h1b := beq_iff_eq.2 h1
       go_wp2
       go_region
       go_wp2
       have HT5 := Aside0.mk ((HT.out.setBest a (wrap64 (rd b2 ((a : Int) + (q : Int)) + 1))).drew)
       generalize (wr.setCell ⟨gb, a, none⟩ (.int .i64 (wrap64 (rd b2 ((a : Int) + (q : Int)) + 1)))).drew = W5 at HT5 ⊢
       obtain ⟨hd1, he1⟩ := row_cell HT5.out.many (a + q) (by simp only; omega)
       obtain ⟨hd2, he2⟩ := row_cell HT5.out.many a (by simp only; omega)
       simp only at hd1 hd2
       clear hc1 hc2 hc3 hc4 hf1 hf2 hf3 hf4
       have HT6 := Aside0.mk ((HT5.out.setMany a (wrap64 (rd m2 ((a : Int) + (q : Int))))).drew)
       clear HT HT5
       go_region
       go_wp2
       exact ⟨⟨k + 1, _, _, by omega, by go_num, HT6, ⟨by rw [HN.out, splitN, if_neg h0, if_pos (.inl h1)]; simp only; rw [h1, Int.zero_add]⟩⟩, by simp [intOf]; omega⟩
      ·have h1b := beq_eq_false_iff_ne.2 h1
       by_cases h2 : wrap64 (rd b2 ((a : Int) + (q : Int)) + 1) < rd b2 (a : Int)
       ·have h2b := decide_eq_true h2
        go_wp2
        go_region
        go_wp2
        have HT5 := Aside0.mk ((HT.out.setBest a (wrap64 (rd b2 ((a : Int) + (q : Int)) + 1))).drew)
        generalize (wr.setCell ⟨gb, a, none⟩ (.int .i64 (wrap64 (rd b2 ((a : Int) + (q : Int)) + 1)))).drew = W5 at HT5 ⊢
        obtain ⟨hd1, he1⟩ := row_cell HT5.out.many (a + q) (by simp only; omega)
        obtain ⟨hd2, he2⟩ := row_cell HT5.out.many a (by simp only; omega)
        simp only at hd1 hd2
        clear hc1 hc2 hc3 hc4 hf1 hf2 hf3 hf4
        have HT6 := Aside0.mk ((HT5.out.setMany a (wrap64 (rd m2 (a : Int) + rd m2 ((a : Int) + (q : Int))))).drew)
        clear HT HT5
        go_region
        go_wp2
        exact ⟨⟨k + 1, _, _, by omega, by go_num, HT6, ⟨by rw [HN.out, splitN, if_neg h0, if_pos (.inr h2)]⟩⟩, by simp [intOf]; omega⟩
       ·have h2b := decide_eq_false h2
        go_wp2
        go_region
        go_wp2
        have HT5 := Aside0.mk HT.out.drew
        generalize wr.drew = W5 at HT5 ⊢
        obtain ⟨hd1, he1⟩ := row_cell HT5.out.many (a + q) (by simp only; omega)
        obtain ⟨hd2, he2⟩ := row_cell HT5.out.many a (by simp only; omega)
        simp only at hd1 hd2
        clear hc1 hc2 hc3 hc4 hf1 hf2 hf3 hf4
        have HT6 := Aside0.mk ((HT5.out.setMany a (wrap64 (rd m2 (a : Int) + rd m2 ((a : Int) + (q : Int))))).drew)
        clear HT HT5
        go_region
        go_wp2
        exact ⟨⟨k + 1, _, _, by omega, by go_num, HT6, ⟨by rw [HN.out, splitN, if_neg h0, if_neg (fun h => h.elim h1 (fun h' => Int.not_lt.2 h2 h'))]⟩⟩, by simp [intOf]; omega⟩
    ·obtain rfl : k = row.length := by omega
     rw [List.take_length] at HG
     go_wp2
     exact ⟨⟨a, m2, b2, by omega, by go_num, HT, ⟨by rw [HG.out]; exact HF2.out⟩⟩, by simp [intOf]⟩
end Go.Proofs.YtadpmgdmiaoniaaGreatDoor.Q
namespace Go.Proofs.YtadpmgdmiaoniaaGreatDoor.Q
open Go.RowKit Go.Proofs.YtadpmgdmiaoniaaGreatDoorW.PrintWords Go.Proofs.YtadpmgdmiaoniaaGreatDoorW.PrintLast Go.Proofs.YtadpmgdmiaoniaaGreatDoorW.PrintMore
attribute [local go_sem] run_field_23 run_field_24 run_field_30 run_field_31 isSome_setCell max2_int min2_int max_two min_two max_three min_three max_four min_four   -- for this text's walks alone
set_option linter.unusedVariables false
set_option linter.unusedSimpArgs false
mutual
def impl_SplitPlaces.l0 : Nat → List Int → List (List Int) → List Bool → List Int → Int → Int → Option (List Int × Bool)
  | 0, _, _, _, _, _, _ => none
  | k + 1, x6, x8, x9, x10, x35, x36 => if x36 < x35 then (if 0 ≤ x36 then (if x36 < (x9.length : Int) then (if rdOf false x9 x36 = true then (if x36 < (x6.length : Int) then (impl_SplitPlaces.j1 k x6 x8 x9 x10 x36 x35 x36 ((rd x6 x36) == 0)) else (none)) else (impl_SplitPlaces.j1 k x6 x8 x9 x10 x36 x35 x36 true)) else (none)) else (none)) else (some (x10, true))
def impl_SplitPlaces.j1 : Nat → List Int → List (List Int) → List Bool → List Int → Int → Int → Int → Bool → Option (List Int × Bool)
  | 0, _, _, _, _, _, _, _, _ => none
  | k + 1, x6, x8, x9, x10, x11, x35, x36, x50 => if x50 = true then (impl_SplitPlaces.l0 k x6 x8 x9 x10 x35 (wrap64 (x36 + 1))) else (if x10.length < 17592186044416 then (if 0 ≤ x11 then (if x11 < (x8.length : Int) then (impl_SplitPlaces.l1 k x6 x8 x9 (x10 ++ [x11]) x11 x35 x36 (rd_L9 x8 x11) ((rd_L9 x8 x11).length : Int) 0) else (none)) else (none)) else (none))
def impl_SplitPlaces.l1 : Nat → List Int → List (List Int) → List Bool → List Int → Int → Int → Int → List Int → Int → Int → Option (List Int × Bool)
  | 0, _, _, _, _, _, _, _, _, _, _ => none
  | k + 1, x6, x8, x9, x10, x11, x35, x36, x58, x59, x60 => if x60 < x59 then (if 0 ≤ x60 then (if x60 < (x58.length : Int) then (if 0 ≤ (wrap64 (x11 + (rd x58 x60))) then (if (wrap64 (x11 + (rd x58 x60))) < (x9.length : Int) then (impl_SplitPlaces.l1 k x6 x8 (x9.set ((wrap64 (x11 + (rd x58 x60))) : Int).toNat true) x10 x11 x35 x36 x58 x59 (wrap64 (x60 + 1))) else (none)) else (none)) else (none)) else (none)) else (impl_SplitPlaces.l0 k x6 x8 x9 x10 x35 (wrap64 (x36 + 1)))
end
def impl_SplitPlaces.f (k : Nat) (l0_0 : List (S70)) (a1 : ByteArray) : Option (List Int × Bool) := (impl_arePassage.f k l0_0 a1).bind fun t424 => (if t424 = true then ((impl_Trie_splits.f l0_0 a1).bind fun bt425 => ((impl_Trie_standing.f l0_0 a1).bind fun t431 => (if 0 ≤ (wrap64 ((a1.size : Int) + 1)) then (if (wrap64 ((a1.size : Int) + 1) : Int).toNat ≤ 281474976710656 then ((some (List.replicate (wrap64 ((a1.size : Int) + 1) : Int).toNat false : List Bool)).bind fun y434 => (if 0 < (y434.length : Int) then (impl_SplitPlaces.l0 k bt425.1 t431 (y434.set (0 : Int).toNat true) (([] : List Int)) (y434.length : Int) 0) else (none))) else (none)) else (none)))) else (some (([] : List Int), false)))
def impl_SplitPlaces.T4 : Bool × List (List Nat × List Nat) := (true, [([], []), ([], []), ([0, 1], [0, 1]), ([], []), ([3], [3]), ([4], [4]), ([5, 5], [5]), ([], []), ([2, 2, 0, 1, 2], [2]), ([6, 8, 0, 1, 2, 3, 4, 5, 6, 8], [6]), ([7, 9, 0, 1, 2, 3, 4, 5, 6, 7, 8, 9], [7])])
def impl_SplitPlaces.B4 : List Nat := [0, 0, 3, 0, 8, 24, 56, 0, 7, 383, 1023]
theorem impl_SplitPlaces.tab4 : rtab .any (opsOf Tryz.f16 4) = impl_SplitPlaces.T4 := by kernel_rfl
theorem impl_SplitPlaces.bits4 : waitsOk impl_SplitPlaces.T4.2 impl_SplitPlaces.B4 = true := by kernel_rfl
set_option maxHeartbeats 8000000 in
set_option maxRecDepth 100000 in
theorem impl_SplitPlaces.calls (k : Nat) (A0_0 : Option Addr) (c0_0 : Nat) (l0_0 : List (S70)) (a1 : ByteArray) (r1 : List Int) (r2 : Bool) (w : World) (hr0_0 : Kd.C k70 w A0_0 l0_0.length l0_0) (hc0_0 : l0_0.length ≤ c0_0) (h : impl_SplitPlaces.f k l0_0 a1 = some (r1, r2)) :
  Calls Tryz.prog 16 #[.agg #[.slice A0_0 l0_0.length c0_0], .string a1] w fun e w' => ∃ v0_ : Value, e = .returned (.tuple #[v0_, .bool r2]) ∧ Kd.R (Kd.int .i64) 3 w' w.heap.size (fun _ => True) v0_ r1 ∧ Below w.heap.size w w' := by
 have hu31 := Tryz.underlying31
 have HR0_0 := Aside0.mk hr0_0
 have HC0_0 := Aside0.mk hc0_0
 clear hr0_0 hc0_0
 have HB := Aside0.mk (Below.refl w.heap.size w)
 have H : ((impl_arePassage.f k l0_0 a1).bind fun t424 => (if t424 = true then ((impl_Trie_splits.f l0_0 a1).bind fun bt425 => ((impl_Trie_standing.f l0_0 a1).bind fun t431 => (if 0 ≤ (wrap64 ((a1.size : Int) + 1)) then (if (wrap64 ((a1.size : Int) + 1) : Int).toNat ≤ 281474976710656 then ((some (List.replicate (wrap64 ((a1.size : Int) + 1) : Int).toNat false : List Bool)).bind fun y434 => (if 0 < (y434.length : Int) then (impl_SplitPlaces.l0 k bt425.1 t431 (y434.set (0 : Int).toNat true) (([] : List Int)) (y434.length : Int) 0) else (none))) else (none)) else (none)))) else (some (([] : List Int), false)))) = some (r1, r2) := h
 clear h
 replace H := Option.bind_eq_some_iff.mp H
 obtain ⟨t424, A30, H⟩ := H
 replace H : (if t424 = true then ((impl_Trie_splits.f l0_0 a1).bind fun bt425 => ((impl_Trie_standing.f l0_0 a1).bind fun t431 => (if 0 ≤ (wrap64 ((a1.size : Int) + 1)) then (if (wrap64 ((a1.size : Int) + 1) : Int).toNat ≤ 281474976710656 then ((some (List.replicate (wrap64 ((a1.size : Int) + 1) : Int).toNat false : List Bool)).bind fun y434 => (if 0 < (y434.length : Int) then (impl_SplitPlaces.l0 k bt425.1 t431 (y434.set (0 : Int).toNat true) (([] : List Int)) (y434.length : Int) 0) else (none))) else (none)) else (none)))) else (some (([] : List Int), false))) = some (r1, r2) := H
 have A3 := Aside0.mk A30
 clear A30
 by_cases c4 : t424 = true
 ·subst c4
  have H1 : ((impl_Trie_splits.f l0_0 a1).bind fun bt425 => ((impl_Trie_standing.f l0_0 a1).bind fun t431 => (if 0 ≤ (wrap64 ((a1.size : Int) + 1)) then (if (wrap64 ((a1.size : Int) + 1) : Int).toNat ≤ 281474976710656 then ((some (List.replicate (wrap64 ((a1.size : Int) + 1) : Int).toNat false : List Bool)).bind fun y434 => (if 0 < (y434.length : Int) then (impl_SplitPlaces.l0 k bt425.1 t431 (y434.set (0 : Int).toNat true) (([] : List Int)) (y434.length : Int) 0) else (none))) else (none)) else (none)))) = some (r1, r2) := by rw [if_pos rfl] at H; exact H
  clear H
  have H := H1
  clear H1
  replace H := Option.bind_eq_some_iff.mp H
  obtain ⟨⟨t425, t428⟩, A50, H⟩ := H
  replace H : ((impl_Trie_standing.f l0_0 a1).bind fun t431 => (if 0 ≤ (wrap64 ((a1.size : Int) + 1)) then (if (wrap64 ((a1.size : Int) + 1) : Int).toNat ≤ 281474976710656 then ((some (List.replicate (wrap64 ((a1.size : Int) + 1) : Int).toNat false : List Bool)).bind fun y434 => (if 0 < (y434.length : Int) then (impl_SplitPlaces.l0 k t425 t431 (y434.set (0 : Int).toNat true) (([] : List Int)) (y434.length : Int) 0) else (none))) else (none)) else (none))) = some (r1, r2) := H
  have A5 := Aside0.mk A50
  clear A50
  replace H := Option.bind_eq_some_iff.mp H
  obtain ⟨t431, A60, H⟩ := H
  replace H : (if 0 ≤ (wrap64 ((a1.size : Int) + 1)) then (if (wrap64 ((a1.size : Int) + 1) : Int).toNat ≤ 281474976710656 then ((some (List.replicate (wrap64 ((a1.size : Int) + 1) : Int).toNat false : List Bool)).bind fun y434 => (if 0 < (y434.length : Int) then (impl_SplitPlaces.l0 k t425 t431 (y434.set (0 : Int).toNat true) (([] : List Int)) (y434.length : Int) 0) else (none))) else (none)) else (none)) = some (r1, r2) := H
  have A6 := Aside0.mk A60
  clear A60
  obtain ⟨ji7, hji7⟩ : ∃ j_ : Int, (wrap64 ((a1.size : Int) + 1)) = j_ := ⟨_, rfl⟩
  replace H : (if 0 ≤ (ji7) then (if (ji7 : Int).toNat ≤ 281474976710656 then ((some (List.replicate (ji7 : Int).toNat false : List Bool)).bind fun y434 => (if 0 < (y434.length : Int) then (impl_SplitPlaces.l0 k t425 t431 (y434.set (0 : Int).toNat true) (([] : List Int)) (y434.length : Int) 0) else (none))) else (none)) else (none)) = some (r1, r2) := by first | (rw [hji7] at H; exact H) | (simp only [hji7] at H ⊢; exact H)
  (try rw [hji7] at A3)
  (try rw [hji7] at A5)
  (try rw [hji7] at A6)
  have hji7w : (IntKind.i64.wrap ((a1.size : Int) + 1)) = ji7 := (i64_w _).trans hji7
  by_cases c8 : 0 ≤ (ji7)
  ·rw [if_pos c8] at H
   have c8b0 := eq_true c8
   have c8b1 : decide (0 ≤ (ji7)) = true := decide_eq_true c8
   clear c8
   by_cases c9 : (ji7 : Int).toNat ≤ 281474976710656
   ·rw [if_pos c9] at H
    have c9b0 := eq_true c9
    have c9b1 : decide ((ji7 : Int).toNat ≤ 281474976710656) = true := decide_eq_true c9
    clear c9
    obtain ⟨y434, hy434⟩ : ∃ y_ : List Bool, y_ = (List.replicate (ji7 : Int).toNat false) := ⟨_, rfl⟩
    replace H : (if 0 < (y434.length : Int) then (impl_SplitPlaces.l0 k t425 t431 (y434.set (0 : Int).toNat true) (([] : List Int)) (y434.length : Int) 0) else (none)) = some (r1, r2) := by first | (rw [hy434]; with_reducible exact H) | (have H2_ := (Option.bind_some _ _).symm.trans H; rw [hy434]; with_reducible exact H2_) | (have H2_ := (Option.bind_some _ _).symm.trans H; with_reducible exact H2_) | with_reducible exact H | (rw [hy434]; exact H) | exact H
    have Ny434 := Aside0.mk hy434
    clear hy434
    obtain ⟨y437, hy437⟩ : ∃ y_ : List Int, y_ = (([] : List Int)) := ⟨_, rfl⟩
    replace H : (if 0 < (y434.length : Int) then (impl_SplitPlaces.l0 k t425 t431 (y434.set (0 : Int).toNat true) y437 (y434.length : Int) 0) else (none)) = some (r1, r2) := by first | (rw [hy437]; with_reducible exact H) | (have H2_ := (Option.bind_some _ _).symm.trans H; rw [hy437]; with_reducible exact H2_) | (have H2_ := (Option.bind_some _ _).symm.trans H; with_reducible exact H2_) | with_reducible exact H | (rw [hy437]; exact H) | exact H
    have Ny437 := Aside0.mk hy437
    clear hy437
    by_cases c10 : 0 < (y434.length : Int)
    ·rw [if_pos c10] at H
     have c10b0 : decide (0 < (y434.length : Int)) = true := decide_eq_true c10
     have c10b1 : decide (0 < y434.length) = true := decide_eq_true (by omega)
     clear c10
     obtain ⟨y440, hy440⟩ : ∃ y_ : List Bool, y_ = (y434.set (0 : Int).toNat true) := ⟨_, rfl⟩
     replace H : (impl_SplitPlaces.l0 k t425 t431 y440 y437 (y434.length : Int) 0) = some (r1, r2) := by first | (rw [hy440]; with_reducible exact H) | (have H2_ := (Option.bind_some _ _).symm.trans H; rw [hy440]; with_reducible exact H2_) | (have H2_ := (Option.bind_some _ _).symm.trans H; with_reducible exact H2_) | with_reducible exact H | (rw [hy440]; exact H) | exact H
     have Ny440 := Aside0.mk hy440
     clear hy440
     have H' := Aside0.mk H
     clear H
     go_enter Tryz.func16, Tryz.ntmps16
     try go_wp2_with (first | ((with_reducible refine gate_dst (N := 2) rfl ?_); refine box_event ?hg (N := 2) ?hd (cs := #[.slice A0_0 l0_0.length c0_0]) (t := 31) ?hr ?_; (case hd => rfl); (case hg => rfl); (case hr => first | (go_simp; done) | (go_simp; rfl)); intro gb423 hg w12 hbox hb; have n0_ := Aside0.mk (below_step (by repeat (first | (with_reducible first | exact HB.out | apply below_alloc | apply pw_below_drewN | apply below_drew1) | exact HB.out)) hb); have n1_ := Aside0.mk (hbox); have n2_ := Aside0.mk ((by rw [hg]; exact (below_size (by repeat (first | (with_reducible first | exact HB.out | apply below_alloc | apply pw_below_drewN | apply below_drew1) | exact HB.out))) : w.heap.size ≤ gb423)); have n3_ := Aside0.mk ((by rw [hg]; exact (below_size (by repeat (first | (with_reducible first | exact HB.out | apply below_alloc | apply pw_below_drewN | apply below_drew1) | exact HB.out))) : w.heap.size ≤ gb423)); clear HB; have HB := n0_; have BK423 := n1_; have GW423 := n2_; have GE423 := n3_; clear n0_ n1_ n2_ n3_; clear hb hbox hg; have hcz13_0 : w12.cell? ⟨gb423, 0, none⟩ = some (.slice A0_0 l0_0.length c0_0) := (blk_cell BK423.out 0).trans rfl; have hfz13_0 := blk_frozen BK423.out 0) | ((with_reducible refine gate_callee (f := 30) rfl ?_); refine goesL_ (some 16) rfl rfl Tryz.func30 (by kernel_rfl) rfl #[.agg #[.slice A0_0 l0_0.length c0_0], .string a1] rfl (by (try simp only [List.map_toArray, List.map_cons, List.map_nil]); first | done | rfl | (simp only [List.length_drop, List.length_take]; rfl)) ?_; (with_reducible refine (impl_arePassage.calls k _ _ l0_0 a1 true _ ?side1 ?side2 A3.out).mono ?_); (case side1 => repeat (first | exact (Kd.C_below HR0_0.out HB.out) | (with_reducible refine Kd.C_alloc ?_ _) | (with_reducible refine Kd.C_drewN ?_ _) | (with_reducible refine Kd.C_drew ?_))); (case side2 => exact HC0_0.out); rintro e w14 ⟨rfl, hb⟩; refine ⟨_, rfl, ?_⟩; have n0_ := Aside0.mk (blk_below (g := gb423) (o := .cells #[.slice A0_0 l0_0.length c0_0] 31 (0, 0)) (by (with_reducible repeat (first | refine blk_drewN ?_ _ | refine blk_drew ?_ | refine blk_alloc ?_ _)); exact BK423.out) hb); have n1_ := Aside0.mk (below_step (by repeat (first | (with_reducible first | exact HB.out | apply below_alloc | apply pw_below_drewN | apply below_drew1 | refine below_set ?_ GE423.out) | exact HB.out)) hb); clear BK423; clear HB; have BK423 := n0_; have HB := n1_; clear n0_ n1_; (try clear hb); (try clear hb2); (try clear hk); (try clear hi); have hcz15_0 : w14.cell? ⟨gb423, 0, none⟩ = some (.slice A0_0 l0_0.length c0_0) := (blk_cell BK423.out 0).trans rfl; have hfz15_0 := blk_frozen BK423.out 0) | ((with_reducible refine gate_callee (f := 36) rfl ?_); refine goesL_ (some 21) rfl rfl Tryz.func36 (by kernel_rfl) rfl #[.agg #[.slice A0_0 l0_0.length c0_0], .string a1] rfl (by (try simp only [List.map_toArray, List.map_cons, List.map_nil]); first | done | rfl | (simp only [List.length_drop, List.length_take]; rfl)) ?_; (with_reducible refine (impl_Trie_splits.calls _ _ l0_0 a1 t425 t428 _ ?side1 ?side2 A5.out).mono ?_); (case side1 => repeat (first | exact (Kd.C_below HR0_0.out HB.out) | (with_reducible refine Kd.C_alloc ?_ _) | (with_reducible refine Kd.C_drewN ?_ _) | (with_reducible refine Kd.C_drew ?_))); (case side2 => exact HC0_0.out); rintro e w16 ⟨v426, v429, rfl, ho0, ho1, hb⟩; refine ⟨_, rfl, ?_⟩; have n0_ := Aside0.mk (Kd.R_lower ho0 (below_size (by repeat (first | (with_reducible first | exact HB.out | apply below_alloc | apply pw_below_drewN | apply below_drew1 | refine below_set ?_ GE423.out) | exact HB.out)))); have n1_ := Aside0.mk (Kd.R_lower ho1 (below_size (by repeat (first | (with_reducible first | exact HB.out | apply below_alloc | apply pw_below_drewN | apply below_drew1 | refine below_set ?_ GE423.out) | exact HB.out)))); have n2_ := Aside0.mk (blk_below (g := gb423) (o := .cells #[.slice A0_0 l0_0.length c0_0] 31 (0, 0)) (by (with_reducible repeat (first | refine blk_drewN ?_ _ | refine blk_drew ?_ | refine blk_alloc ?_ _)); exact BK423.out) hb); have n3_ := Aside0.mk (below_step (by repeat (first | (with_reducible first | exact HB.out | apply below_alloc | apply pw_below_drewN | apply below_drew1 | refine below_set ?_ GE423.out) | exact HB.out)) hb); clear BK423; clear HB; have HO427 := n0_; have HO430 := n1_; have BK423 := n2_; have HB := n3_; clear n0_ n1_ n2_ n3_; (try clear hb); (try clear hb2); (try clear hk); (try clear hi); (try clear ho0); (try clear ho1)))
     have n0_ := Aside0.mk (Kd.R_drew HO427.out)
     have n1_ := Aside0.mk (Kd.R_drew HO430.out)
     have n2_ := Aside0.mk (blk_drew BK423.out)
     have n3_ := Aside0.mk (below_drew1 HB.out)
     revert n0_ n1_ n2_ n3_
     clear HO427 HO430 BK423 HB
     intro HO427 HO430 BK423 HB
     refine start_ (n := 11) (S := fun w' => w'.cell? ⟨gb423, 0, none⟩ = some (.slice A0_0 l0_0.length c0_0)) (ds := []) #[false, false, false, false, false, false, false, false, false, false, false] (by kernel_rfl) rfl rfl ((blk_cell BK423.out 0).trans rfl) (fun hHeld => ?_); refine with_tabW impl_SplitPlaces.tab4 impl_SplitPlaces.bits4 (fun HT_ HW_ => ?_)
     generalize w16.drew = w17 at HO427 HO430 BK423 HB hHeld ⊢
     refine pure_ (i := 1) (N := some 25) (v := ?_) (a' := ?_) #[false, true, false, false, false, false, false, false, false, false, false] rfl rfl (any_of HT_.out (by kernel_rfl)) (fun _ _ _ h => h) (Or.inl ⟨by rfl, ?_⟩) ?_ ?_
     rotate_left
     ·intro w'
      go_simp
      with_reducible rfl
     rotate_left
     ·simp only [Act.put, List.setIfInBounds_toArray, List.set_cons_zero, List.set_cons_succ, i64_w, i32_w]
      rfl
     refine pure_ (i := 3) (N := some 27) (v := ?_) (a' := ?_) #[false, true, false, true, false, false, false, false, false, false, false] rfl rfl (any_of HT_.out (by kernel_rfl)) (fun _ _ _ h => h) (Or.inl ⟨by rfl, ?_⟩) ?_ ?_
     rotate_left
     ·intro w'
      go_simp
      with_reducible rfl
     rotate_left
     ·simp only [Act.put, List.setIfInBounds_toArray, List.set_cons_zero, List.set_cons_succ, i64_w, i32_w]
      rfl
     refine pure_ (i := 4) (N := some 28) (v := ?_) (a' := ?_) #[false, true, false, true, true, false, false, false, false, false, false] rfl rfl (any_of HT_.out (by kernel_rfl)) (fun _ _ _ h => h) (Or.inl ⟨by rfl, ?_⟩) ?_ ?_
     rotate_left
     ·intro w'
      go_simp
      with_reducible rfl
     rotate_left
     ·simp only [Act.put, List.setIfInBounds_toArray, List.set_cons_zero, List.set_cons_succ, i64_w, i32_w]
      rfl
     refine pure_ (i := 5) (N := some 29) (v := ?_) (a' := ?_) #[false, true, false, true, true, true, false, false, false, false, false] rfl rfl (any_of HT_.out (by kernel_rfl)) (fun _ _ _ h => h) (Or.inl ⟨by rfl, ?_⟩) ?_ ?_
     rotate_left
     ·intro w'
      go_simp
      with_reducible rfl
     rotate_left
     ·simp only [Act.put, List.setIfInBounds_toArray, List.set_cons_zero, List.set_cons_succ, i64_w, i32_w]
      rfl
     refine take_ (i := 0) (N := some 24) (v := ?_) (a' := ?_) #[true, true, false, true, true, true, false, false, false, false, false] rfl rfl (take_ofW HT_.out HW_.out (by kernel_rfl)) (fun _ _ _ h => h) (Or.inl ⟨by rfl, ?_⟩) hHeld ?_ ?_
     rotate_left
     ·intro w' s0
      go_simp
      with_reducible rfl
     rotate_left
     ·simp only [Act.put, List.setIfInBounds_toArray, List.set_cons_zero, List.set_cons_succ, i64_w, i32_w]
      rfl
     refine join_ (σ := Value × Value × Value) 1 #[true, true, true, true, true, true, true, true, true, true, false] (fun s_ => [(26, s_.1), (30, s_.2.1), (31, s_.2.2), (8, s_.1), (9, s_.2.1)]) (fun s_ w' => (w'.cell? ⟨gb423, 0, none⟩ = some (.slice A0_0 l0_0.length c0_0)) ∧ (Kd.R (Kd.int .i64) 3 w' w.heap.size (fun k_ => some k_ ≠ (v429 : Value).ownBlock ∧ some k_ ≠ (s_.2.2 : Value).ownBlock) v426 t425) ∧ (Kd.R (Kd.int .i64) 3 w' w.heap.size (fun k_ => some k_ ≠ (v426 : Value).ownBlock ∧ some k_ ≠ (s_.2.2 : Value).ownBlock) v429 t428) ∧ (Kd.S (Kd.slice 3 (Kd.int .i64)) 38 w' w.heap.size (fun k_ => some k_ ≠ (v426 : Value).ownBlock ∧ some k_ ≠ (v429 : Value).ownBlock ∧ some k_ ≠ (s_.2.2 : Value).ownBlock) s_.1 t431) ∧ (Kd.R Kd.bool 4 w' w.heap.size (fun _ => True) s_.2.1 y434) ∧ (Kd.R (Kd.int .i64) 3 w' w.heap.size (fun k_ => some k_ ≠ (v426 : Value).ownBlock ∧ some k_ ≠ (v429 : Value).ownBlock) s_.2.2 y437) ∧ (w'.heap[gb423]? = some (.cells #[.slice A0_0 l0_0.length c0_0] 31 (0, 0))) ∧ (Below w.heap.size w w')) ?_ ?_
     rotate_left
     ·intro hJ2_6_7
      refine join_ (σ := Value × Value) 2 #[true, true, true, true, true, true, true, false, true, true, false] (fun s_ => [(26, s_.1), (30, s_.2), (8, s_.1), (9, s_.2)]) (fun s_ w' => (w'.cell? ⟨gb423, 0, none⟩ = some (.slice A0_0 l0_0.length c0_0)) ∧ (Kd.R (Kd.int .i64) 3 w' w.heap.size (fun k_ => some k_ ≠ (v429 : Value).ownBlock) v426 t425) ∧ (Kd.R (Kd.int .i64) 3 w' w.heap.size (fun k_ => some k_ ≠ (v426 : Value).ownBlock) v429 t428) ∧ (Kd.S (Kd.slice 3 (Kd.int .i64)) 38 w' w.heap.size (fun k_ => some k_ ≠ (v426 : Value).ownBlock ∧ some k_ ≠ (v429 : Value).ownBlock) s_.1 t431) ∧ (Kd.R Kd.bool 4 w' w.heap.size (fun _ => True) s_.2 y434) ∧ (w'.heap[gb423]? = some (.cells #[.slice A0_0 l0_0.length c0_0] 31 (0, 0))) ∧ (Below w.heap.size w w')) ?_ ?_
      rotate_left
      ·intro hJ2_6
       refine join_ (σ := Value × Value) 3 #[true, true, true, true, true, true, false, true, true, false, false] (fun s_ => [(26, s_.1), (31, s_.2), (8, s_.1)]) (fun s_ w' => (w'.cell? ⟨gb423, 0, none⟩ = some (.slice A0_0 l0_0.length c0_0)) ∧ (Kd.R (Kd.int .i64) 3 w' w.heap.size (fun k_ => some k_ ≠ (v429 : Value).ownBlock ∧ some k_ ≠ (s_.2 : Value).ownBlock) v426 t425) ∧ (Kd.R (Kd.int .i64) 3 w' w.heap.size (fun k_ => some k_ ≠ (v426 : Value).ownBlock ∧ some k_ ≠ (s_.2 : Value).ownBlock) v429 t428) ∧ (Kd.S (Kd.slice 3 (Kd.int .i64)) 38 w' w.heap.size (fun k_ => some k_ ≠ (v426 : Value).ownBlock ∧ some k_ ≠ (v429 : Value).ownBlock ∧ some k_ ≠ (s_.2 : Value).ownBlock) s_.1 t431) ∧ (Kd.R (Kd.int .i64) 3 w' w.heap.size (fun k_ => some k_ ≠ (v426 : Value).ownBlock ∧ some k_ ≠ (v429 : Value).ownBlock) s_.2 y437) ∧ (w'.heap[gb423]? = some (.cells #[.slice A0_0 l0_0.length c0_0] 31 (0, 0))) ∧ (Below w.heap.size w w')) ?_ ?_
       rotate_left
       ·intro hJ2_7
        refine join_ (σ := Value × Value) 4 #[true, true, false, true, true, true, true, true, false, false, false] (fun s_ => [(30, s_.1), (31, s_.2)]) (fun s_ w' => (w'.cell? ⟨gb423, 0, none⟩ = some (.slice A0_0 l0_0.length c0_0)) ∧ (Kd.R (Kd.int .i64) 3 w' w.heap.size (fun k_ => some k_ ≠ (v429 : Value).ownBlock ∧ some k_ ≠ (s_.2 : Value).ownBlock) v426 t425) ∧ (Kd.R (Kd.int .i64) 3 w' w.heap.size (fun k_ => some k_ ≠ (v426 : Value).ownBlock ∧ some k_ ≠ (s_.2 : Value).ownBlock) v429 t428) ∧ (Kd.R Kd.bool 4 w' w.heap.size (fun _ => True) s_.1 y434) ∧ (Kd.R (Kd.int .i64) 3 w' w.heap.size (fun k_ => some k_ ≠ (v426 : Value).ownBlock ∧ some k_ ≠ (v429 : Value).ownBlock) s_.2 y437) ∧ (w'.heap[gb423]? = some (.cells #[.slice A0_0 l0_0.length c0_0] 31 (0, 0))) ∧ (Below w.heap.size w w')) ?_ ?_
        rotate_left
        ·intro hJ6_7
         refine join_ (σ := Value) 4 #[true, true, true, true, true, true, false, false, true, false, false] (fun s_ => [(26, s_), (8, s_)]) (fun s_ w' => (w'.cell? ⟨gb423, 0, none⟩ = some (.slice A0_0 l0_0.length c0_0)) ∧ (Kd.R (Kd.int .i64) 3 w' w.heap.size (fun k_ => some k_ ≠ (v429 : Value).ownBlock) v426 t425) ∧ (Kd.R (Kd.int .i64) 3 w' w.heap.size (fun k_ => some k_ ≠ (v426 : Value).ownBlock) v429 t428) ∧ (Kd.S (Kd.slice 3 (Kd.int .i64)) 38 w' w.heap.size (fun k_ => some k_ ≠ (v426 : Value).ownBlock ∧ some k_ ≠ (v429 : Value).ownBlock) s_ t431) ∧ (w'.heap[gb423]? = some (.cells #[.slice A0_0 l0_0.length c0_0] 31 (0, 0))) ∧ (Below w.heap.size w w')) ?_ ?_
         rotate_left
         ·intro hJ2
          refine join_ (σ := Value) 5 #[true, true, false, true, true, true, true, false, false, false, false] (fun s_ => [(30, s_)]) (fun s_ w' => (w'.cell? ⟨gb423, 0, none⟩ = some (.slice A0_0 l0_0.length c0_0)) ∧ (Kd.R (Kd.int .i64) 3 w' w.heap.size (fun k_ => some k_ ≠ (v429 : Value).ownBlock) v426 t425) ∧ (Kd.R (Kd.int .i64) 3 w' w.heap.size (fun k_ => some k_ ≠ (v426 : Value).ownBlock) v429 t428) ∧ (Kd.R Kd.bool 4 w' w.heap.size (fun _ => True) s_ y434) ∧ (w'.heap[gb423]? = some (.cells #[.slice A0_0 l0_0.length c0_0] 31 (0, 0))) ∧ (Below w.heap.size w w')) ?_ ?_
          rotate_left
          ·intro hJ6
           refine join_ (σ := Value) 5 #[true, true, false, true, true, true, false, true, false, false, false] (fun s_ => [(31, s_)]) (fun s_ w' => (w'.cell? ⟨gb423, 0, none⟩ = some (.slice A0_0 l0_0.length c0_0)) ∧ (Kd.R (Kd.int .i64) 3 w' w.heap.size (fun k_ => some k_ ≠ (v429 : Value).ownBlock ∧ some k_ ≠ (s_ : Value).ownBlock) v426 t425) ∧ (Kd.R (Kd.int .i64) 3 w' w.heap.size (fun k_ => some k_ ≠ (v426 : Value).ownBlock ∧ some k_ ≠ (s_ : Value).ownBlock) v429 t428) ∧ (Kd.R (Kd.int .i64) 3 w' w.heap.size (fun k_ => some k_ ≠ (v426 : Value).ownBlock ∧ some k_ ≠ (v429 : Value).ownBlock) s_ y437) ∧ (w'.heap[gb423]? = some (.cells #[.slice A0_0 l0_0.length c0_0] 31 (0, 0))) ∧ (Below w.heap.size w w')) ?_ ?_
           rotate_left
           ·intro hJ7
            refine three_ (i := 2) (j := 6) (k := 7) (Ni := some 26) (Nj := some 30) (Nk := some 31) #[true, true, true, true, true, true, false, false, false, false, false] #[true, true, false, true, true, true, true, false, false, false, false] #[true, true, false, true, true, true, false, true, false, false, false] rfl rfl rfl rfl rfl rfl (three_of HT_.out (by kernel_rfl)) (by decide) (by decide) (by decide) (fun K hK => ?_) (fun K hK => ?_) (fun K hK => ?_)
            ·skip
             refine goes_ Tryz.func31 (by kernel_rfl) rfl #[.agg #[.slice A0_0 l0_0.length c0_0], .string a1] (by rfl) rfl rfl (by (try simp only [List.map_toArray, List.map_cons, List.map_nil]); first | done | rfl | (simp only [List.length_drop, List.length_take]; rfl)) ?_
             with_reducible refine (impl_Trie_standing.calls _ _ l0_0 a1 t431 _ ?side1 ?side2 A6.out).mono ?_
             (case side1 => exact (Kd.C_below HR0_0.out HB.out))
             (case side2 => exact HC0_0.out)
             rintro e w18 ⟨v432, rfl, ho0, hb⟩
             refine ⟨_, rfl, ?_⟩
             have n0_ := Aside0.mk (Kd.R_below HO427.out hb)
             have n1_ := Aside0.mk (Kd.R_below HO430.out hb)
             have n2_ := Aside0.mk (Kd.S_lower (Kd.S_new' (Kd.S_new' ho0 (Kd.R_lt HO427.out)) (Kd.R_lt HO430.out)) (below_size HB.out))
             have n3_ := Aside0.mk (blk_below BK423.out hb)
             have n4_ := Aside0.mk (below_step HB.out hb)
             revert n0_ n1_ n2_ n3_ n4_
             clear HO427 HO430 BK423 HB
             intro HO427 HO430 HO433 BK423 HB
             (try clear hb)
             (try clear hb2)
             (try clear hk)
             (try clear hi)
             (try clear ho0)
             refine hK.out _ _ ((blk_cell BK423.out 0).trans rfl) (fun hHeld => ?_)
             clear hK K
             refine norm_ (a' := ?_) ?_ ?_
             rotate_left
             ·show Act.put _ (some 26) _ = _
              simp only [Act.put, List.setIfInBounds_toArray, List.set_cons_zero, List.set_cons_succ, i64_w, i32_w]
              rfl
             refine pure_ (i := 8) (N := some 8) (v := ?_) (a' := ?_) #[true, true, true, true, true, true, false, false, true, false, false] rfl rfl (any_of HT_.out (by kernel_rfl)) (fun _ _ _ h => h) (Or.inl ⟨by rfl, ?_⟩) ?_ ?_
             rotate_left
             ·intro w'
              go_simp
              with_reducible rfl
             rotate_left
             ·simp only [Act.put, List.setIfInBounds_toArray, List.set_cons_zero, List.set_cons_succ, i64_w, i32_w]
              rfl
             exact norm_ (by first | (simp only [putAll, Act.put, List.setIfInBounds_toArray, List.set_cons_zero, List.set_cons_succ]; done) | (simp only [putAll, Act.put, List.setIfInBounds_toArray, List.set_cons_zero, List.set_cons_succ]; rfl)) (hJ2 (v432) _ ⟨hHeld, (by (with_reducible repeat (first | apply Kd.R_alloc | apply Kd.R_drewN | apply Kd.R_drew)); exact HO427.out), (by (with_reducible repeat (first | apply Kd.R_alloc | apply Kd.R_drewN | apply Kd.R_drew)); exact HO430.out), (by (with_reducible repeat (first | apply Kd.S_alloc | apply Kd.S_drewN | apply Kd.S_drew)); exact Kd.S_mono HO433.out (fun _ hk => ⟨hk.1.2, hk.2⟩)), (by (with_reducible repeat (first | refine blk_drewN ?_ _ | refine blk_drew ?_ | refine blk_alloc ?_ _)); exact BK423.out), (by repeat (first | (with_reducible first | exact HB.out | apply below_alloc | apply pw_below_drewN | apply below_drew1 | refine below_set ?_ GE423.out) | exact HB.out))⟩)
            ·skip
             refine Kd.R_make_step Kd.bool _ 4 (by rfl) (N := 30) rfl 60 _ _ rfl ji7 rfl rfl Tryz.underlying60 (.bool false) 1 info4 rfl (by decide) (by omega) false (ok := fun _ => True) (okp := fun _ => True) rfl (fun _ hk => hk) trivial (of_decide_eq_true (by first | (with_reducible assumption) | assumption)) (Nat.le_trans (Nat.mul_le_mul_right _ (of_decide_eq_true (by first | (with_reducible assumption) | assumption) : ji7.toNat ≤ 281474976710656)) (by omega)) (Below.refl _ _) (Nat.le_refl _) ?_
             intro v435 w18 ho19 hb hg_ hnew_
             clear hg_ hnew_
             (first | rw [← Ny434.out] at ho19 | (simp only [Int.reduceToNat] at ho19; rw [← Ny434.out] at ho19))
             have n0_ := Aside0.mk (Kd.R_below HO427.out hb)
             have n1_ := Aside0.mk (Kd.R_below HO430.out hb)
             have n2_ := Aside0.mk (Kd.R_lower ho19 (below_size HB.out))
             have n3_ := Aside0.mk (blk_below BK423.out hb)
             have n4_ := Aside0.mk (below_step HB.out hb)
             revert n0_ n1_ n2_ n3_ n4_
             clear HO427 HO430 BK423 HB
             intro HO427 HO430 HO436 BK423 HB
             clear hb ho19
             refine hK.out _ _ ((blk_cell BK423.out 0).trans rfl) (fun hHeld => ?_)
             clear hK K
             refine norm_ (a' := ?_) ?_ ?_
             rotate_left
             ·show Act.put _ (some 30) _ = _
              simp only [Act.put, List.setIfInBounds_toArray, List.set_cons_zero, List.set_cons_succ, i64_w, i32_w]
              rfl
             exact norm_ (by first | (simp only [putAll, Act.put, List.setIfInBounds_toArray, List.set_cons_zero, List.set_cons_succ]; done) | (simp only [putAll, Act.put, List.setIfInBounds_toArray, List.set_cons_zero, List.set_cons_succ]; rfl)) (hJ6 (v435) _ ⟨hHeld, (by (with_reducible repeat (first | apply Kd.R_alloc | apply Kd.R_drewN | apply Kd.R_drew)); exact HO427.out), (by (with_reducible repeat (first | apply Kd.R_alloc | apply Kd.R_drewN | apply Kd.R_drew)); exact HO430.out), (by (with_reducible repeat (first | apply Kd.R_alloc | apply Kd.R_drewN | apply Kd.R_drew)); exact HO436.out), (by (with_reducible repeat (first | refine blk_drewN ?_ _ | refine blk_drew ?_ | refine blk_alloc ?_ _)); exact BK423.out), (by repeat (first | (with_reducible first | exact HB.out | apply below_alloc | apply pw_below_drewN | apply below_drew1 | refine below_set ?_ GE423.out) | exact HB.out))⟩)
            ·skip
             refine Kd.R_lit_step (Kd.int .i64) _ 3 ?hg (N := 31) ?hd (xs := ([] : List Int)) (inner := []) (ok := fun _ => True) (okp := fun _ => True) ?hr ?hp (fun _ hk => hk) trivial (Below.refl _ _) (Nat.le_refl _) (by simp) ?_; (case hd => rfl); (case hg => rfl); (case hr => first | (go_simp; done) | (go_simp; rfl)); (case hp => exact (Reps.none _ _))
             intro v438 w18 ho19 hb hg_ hnew_
             clear hg_ hnew_
             (first | rw [← Ny437.out] at ho19 | (simp only [Int.reduceToNat] at ho19; rw [← Ny437.out] at ho19))
             have n0_ := Aside0.mk (Kd.R_elder' HO427.out (Kd.R_base ho19) hb)
             have n1_ := Aside0.mk (Kd.R_elder' HO430.out (Kd.R_base ho19) hb)
             have n2_ := Aside0.mk (Kd.R_lower (Kd.R_new' (Kd.R_new' ho19 (Kd.R_lt HO427.out)) (Kd.R_lt HO430.out)) (below_size HB.out))
             have n3_ := Aside0.mk (blk_below BK423.out hb)
             have n4_ := Aside0.mk (below_step HB.out hb)
             revert n0_ n1_ n2_ n3_ n4_
             clear HO427 HO430 BK423 HB
             intro HO427 HO430 HO439 BK423 HB
             clear hb ho19
             refine hK.out _ _ ((blk_cell BK423.out 0).trans rfl) (fun hHeld => ?_)
             clear hK K
             refine norm_ (a' := ?_) ?_ ?_
             rotate_left
             ·show Act.put _ (some 31) _ = _
              simp only [Act.put, List.setIfInBounds_toArray, List.set_cons_zero, List.set_cons_succ, i64_w, i32_w]
              rfl
             exact norm_ (by first | (simp only [putAll, Act.put, List.setIfInBounds_toArray, List.set_cons_zero, List.set_cons_succ]; done) | (simp only [putAll, Act.put, List.setIfInBounds_toArray, List.set_cons_zero, List.set_cons_succ]; rfl)) (hJ7 (v438) _ ⟨hHeld, (by (with_reducible repeat (first | apply Kd.R_alloc | apply Kd.R_drewN | apply Kd.R_drew)); exact HO427.out), (by (with_reducible repeat (first | apply Kd.R_alloc | apply Kd.R_drewN | apply Kd.R_drew)); exact HO430.out), (by (with_reducible repeat (first | apply Kd.R_alloc | apply Kd.R_drewN | apply Kd.R_drew)); exact Kd.R_mono HO439.out (fun _ hk => ⟨hk.1.2, hk.2⟩)), (by (with_reducible repeat (first | refine blk_drewN ?_ _ | refine blk_drew ?_ | refine blk_alloc ?_ _)); exact BK423.out), (by repeat (first | (with_reducible first | exact HB.out | apply below_alloc | apply pw_below_drewN | apply below_drew1 | refine below_set ?_ GE423.out) | exact HB.out))⟩)
           ·skip
            rintro v438 w20 ⟨hS_, h0_, h1_, h2_, h3_, h4_⟩
            have n0_ : Aside0 (Kd.R (Kd.int .i64) 3 w20 w.heap.size (fun k_ => some k_ ≠ (v429 : Value).ownBlock ∧ some k_ ≠ (v438 : Value).ownBlock) v426 t425) := ⟨h0_⟩
            have n1_ : Aside0 (Kd.R (Kd.int .i64) 3 w20 w.heap.size (fun k_ => some k_ ≠ (v426 : Value).ownBlock ∧ some k_ ≠ (v438 : Value).ownBlock) v429 t428) := ⟨h1_⟩
            have n2_ : Aside0 (Kd.R (Kd.int .i64) 3 w20 w.heap.size (fun k_ => some k_ ≠ (v426 : Value).ownBlock ∧ some k_ ≠ (v429 : Value).ownBlock) v438 y437) := ⟨h2_⟩
            have n3_ : Aside0 (w20.heap[gb423]? = some (.cells #[.slice A0_0 l0_0.length c0_0] 31 (0, 0))) := ⟨h3_⟩
            have n4_ : Aside0 (Below w.heap.size w w20) := ⟨h4_⟩
            clear HO427
            clear HO430
            clear BK423
            clear HB
            clear h0_ h1_ h2_ h3_ h4_
            have HO427 := n0_
            have HO430 := n1_
            have HO439 := n2_
            have BK423 := n3_
            have HB := n4_
            clear n0_ n1_ n2_ n3_ n4_
            have hHeld : w20.cell? ⟨gb423, 0, none⟩ = some (.slice A0_0 l0_0.length c0_0) := hS_
            refine norm_ (a' := ?_) ?_ ?_
            rotate_left
            ·simp only [putAll, Act.put, List.setIfInBounds_toArray, List.set_cons_zero, List.set_cons_succ]
             rfl
            refine two_ (i := 2) (j := 6) (Ni := some 26) (Nj := some 30) #[true, true, true, true, true, true, false, true, false, false, false] #[true, true, false, true, true, true, true, true, false, false, false] rfl rfl rfl rfl (two_of HT_.out (by kernel_rfl)) (by decide) (by decide) (fun K hK => ?_) (fun K hK => ?_)
            ·skip
             refine goes_ Tryz.func31 (by kernel_rfl) rfl #[.agg #[.slice A0_0 l0_0.length c0_0], .string a1] (by rfl) rfl rfl (by (try simp only [List.map_toArray, List.map_cons, List.map_nil]); first | done | rfl | (simp only [List.length_drop, List.length_take]; rfl)) ?_
             with_reducible refine (impl_Trie_standing.calls _ _ l0_0 a1 t431 _ ?side1 ?side2 A6.out).mono ?_
             (case side1 => exact (Kd.C_below HR0_0.out HB.out))
             (case side2 => exact HC0_0.out)
             rintro e w21 ⟨v432, rfl, ho0, hb⟩
             refine ⟨_, rfl, ?_⟩
             have n0_ := Aside0.mk (Kd.R_below HO427.out hb)
             have n1_ := Aside0.mk (Kd.R_below HO430.out hb)
             have n2_ := Aside0.mk (Kd.R_below HO439.out hb)
             have n3_ := Aside0.mk (Kd.S_lower (Kd.S_new' (Kd.S_new' (Kd.S_new' ho0 (Kd.R_lt HO427.out)) (Kd.R_lt HO430.out)) (Kd.R_lt HO439.out)) (below_size HB.out))
             have n4_ := Aside0.mk (blk_below BK423.out hb)
             have n5_ := Aside0.mk (below_step HB.out hb)
             revert n0_ n1_ n2_ n3_ n4_ n5_
             clear HO427 HO430 HO439 BK423 HB
             intro HO427 HO430 HO439 HO433 BK423 HB
             (try clear hb)
             (try clear hb2)
             (try clear hk)
             (try clear hi)
             (try clear ho0)
             refine hK.out _ _ ((blk_cell BK423.out 0).trans rfl) (fun hHeld => ?_)
             clear hK K
             refine norm_ (a' := ?_) ?_ ?_
             rotate_left
             ·show Act.put _ (some 26) _ = _
              simp only [Act.put, List.setIfInBounds_toArray, List.set_cons_zero, List.set_cons_succ, i64_w, i32_w]
              rfl
             refine pure_ (i := 8) (N := some 8) (v := ?_) (a' := ?_) #[true, true, true, true, true, true, false, true, true, false, false] rfl rfl (any_of HT_.out (by kernel_rfl)) (fun _ _ _ h => h) (Or.inl ⟨by rfl, ?_⟩) ?_ ?_
             rotate_left
             ·intro w'
              go_simp
              with_reducible rfl
             rotate_left
             ·simp only [Act.put, List.setIfInBounds_toArray, List.set_cons_zero, List.set_cons_succ, i64_w, i32_w]
              rfl
             exact norm_ (by first | (simp only [putAll, Act.put, List.setIfInBounds_toArray, List.set_cons_zero, List.set_cons_succ]; done) | (simp only [putAll, Act.put, List.setIfInBounds_toArray, List.set_cons_zero, List.set_cons_succ]; rfl)) (hJ2_7 (v432, v438) _ ⟨hHeld, (by (with_reducible repeat (first | apply Kd.R_alloc | apply Kd.R_drewN | apply Kd.R_drew)); exact HO427.out), (by (with_reducible repeat (first | apply Kd.R_alloc | apply Kd.R_drewN | apply Kd.R_drew)); exact HO430.out), (by (with_reducible repeat (first | apply Kd.S_alloc | apply Kd.S_drewN | apply Kd.S_drew)); exact Kd.S_mono HO433.out (fun _ hk => ⟨hk.1.1.2, ⟨hk.1.2, hk.2⟩⟩)), (by (with_reducible repeat (first | apply Kd.R_alloc | apply Kd.R_drewN | apply Kd.R_drew)); exact HO439.out), (by (with_reducible repeat (first | refine blk_drewN ?_ _ | refine blk_drew ?_ | refine blk_alloc ?_ _)); exact BK423.out), (by repeat (first | (with_reducible first | exact HB.out | apply below_alloc | apply pw_below_drewN | apply below_drew1 | refine below_set ?_ GE423.out) | exact HB.out))⟩)
            ·skip
             refine Kd.R_make_step Kd.bool _ 4 (by rfl) (N := 30) rfl 60 _ _ rfl ji7 rfl rfl Tryz.underlying60 (.bool false) 1 info4 rfl (by decide) (by omega) false (ok := fun _ => True) (okp := fun _ => True) rfl (fun _ hk => hk) trivial (of_decide_eq_true (by first | (with_reducible assumption) | assumption)) (Nat.le_trans (Nat.mul_le_mul_right _ (of_decide_eq_true (by first | (with_reducible assumption) | assumption) : ji7.toNat ≤ 281474976710656)) (by omega)) (Below.refl _ _) (Nat.le_refl _) ?_
             intro v435 w21 ho22 hb hg_ hnew_
             clear hg_ hnew_
             (first | rw [← Ny434.out] at ho22 | (simp only [Int.reduceToNat] at ho22; rw [← Ny434.out] at ho22))
             have n0_ := Aside0.mk (Kd.R_below HO427.out hb)
             have n1_ := Aside0.mk (Kd.R_below HO430.out hb)
             have n2_ := Aside0.mk (Kd.R_below HO439.out hb)
             have n3_ := Aside0.mk (Kd.R_lower ho22 (below_size HB.out))
             have n4_ := Aside0.mk (blk_below BK423.out hb)
             have n5_ := Aside0.mk (below_step HB.out hb)
             revert n0_ n1_ n2_ n3_ n4_ n5_
             clear HO427 HO430 HO439 BK423 HB
             intro HO427 HO430 HO439 HO436 BK423 HB
             clear hb ho22
             refine hK.out _ _ ((blk_cell BK423.out 0).trans rfl) (fun hHeld => ?_)
             clear hK K
             refine norm_ (a' := ?_) ?_ ?_
             rotate_left
             ·show Act.put _ (some 30) _ = _
              simp only [Act.put, List.setIfInBounds_toArray, List.set_cons_zero, List.set_cons_succ, i64_w, i32_w]
              rfl
             exact norm_ (by first | (simp only [putAll, Act.put, List.setIfInBounds_toArray, List.set_cons_zero, List.set_cons_succ]; done) | (simp only [putAll, Act.put, List.setIfInBounds_toArray, List.set_cons_zero, List.set_cons_succ]; rfl)) (hJ6_7 (v435, v438) _ ⟨hHeld, (by (with_reducible repeat (first | apply Kd.R_alloc | apply Kd.R_drewN | apply Kd.R_drew)); exact HO427.out), (by (with_reducible repeat (first | apply Kd.R_alloc | apply Kd.R_drewN | apply Kd.R_drew)); exact HO430.out), (by (with_reducible repeat (first | apply Kd.R_alloc | apply Kd.R_drewN | apply Kd.R_drew)); exact HO436.out), (by (with_reducible repeat (first | apply Kd.R_alloc | apply Kd.R_drewN | apply Kd.R_drew)); exact HO439.out), (by (with_reducible repeat (first | refine blk_drewN ?_ _ | refine blk_drew ?_ | refine blk_alloc ?_ _)); exact BK423.out), (by repeat (first | (with_reducible first | exact HB.out | apply below_alloc | apply pw_below_drewN | apply below_drew1 | refine below_set ?_ GE423.out) | exact HB.out))⟩)
          ·skip
           rintro v435 w20 ⟨hS_, h0_, h1_, h2_, h3_, h4_⟩
           have n0_ : Aside0 (Kd.R (Kd.int .i64) 3 w20 w.heap.size (fun k_ => some k_ ≠ (v429 : Value).ownBlock) v426 t425) := ⟨h0_⟩
           have n1_ : Aside0 (Kd.R (Kd.int .i64) 3 w20 w.heap.size (fun k_ => some k_ ≠ (v426 : Value).ownBlock) v429 t428) := ⟨h1_⟩
           have n2_ : Aside0 (Kd.R Kd.bool 4 w20 w.heap.size (fun _ => True) v435 y434) := ⟨h2_⟩
           have n3_ : Aside0 (w20.heap[gb423]? = some (.cells #[.slice A0_0 l0_0.length c0_0] 31 (0, 0))) := ⟨h3_⟩
           have n4_ : Aside0 (Below w.heap.size w w20) := ⟨h4_⟩
           clear HO427
           clear HO430
           clear BK423
           clear HB
           clear h0_ h1_ h2_ h3_ h4_
           have HO427 := n0_
           have HO430 := n1_
           have HO436 := n2_
           have BK423 := n3_
           have HB := n4_
           clear n0_ n1_ n2_ n3_ n4_
           have hHeld : w20.cell? ⟨gb423, 0, none⟩ = some (.slice A0_0 l0_0.length c0_0) := hS_
           refine norm_ (a' := ?_) ?_ ?_
           rotate_left
           ·simp only [putAll, Act.put, List.setIfInBounds_toArray, List.set_cons_zero, List.set_cons_succ]
            rfl
           refine two_ (i := 2) (j := 7) (Ni := some 26) (Nj := some 31) #[true, true, true, true, true, true, true, false, false, false, false] #[true, true, false, true, true, true, true, true, false, false, false] rfl rfl rfl rfl (two_of HT_.out (by kernel_rfl)) (by decide) (by decide) (fun K hK => ?_) (fun K hK => ?_)
           ·skip
            refine goes_ Tryz.func31 (by kernel_rfl) rfl #[.agg #[.slice A0_0 l0_0.length c0_0], .string a1] (by rfl) rfl rfl (by (try simp only [List.map_toArray, List.map_cons, List.map_nil]); first | done | rfl | (simp only [List.length_drop, List.length_take]; rfl)) ?_
            with_reducible refine (impl_Trie_standing.calls _ _ l0_0 a1 t431 _ ?side1 ?side2 A6.out).mono ?_
            (case side1 => exact (Kd.C_below HR0_0.out HB.out))
            (case side2 => exact HC0_0.out)
            rintro e w21 ⟨v432, rfl, ho0, hb⟩
            refine ⟨_, rfl, ?_⟩
            have n0_ := Aside0.mk (Kd.R_below HO427.out hb)
            have n1_ := Aside0.mk (Kd.R_below HO430.out hb)
            have n2_ := Aside0.mk (Kd.R_below HO436.out hb)
            have n3_ := Aside0.mk (Kd.S_lower (Kd.S_new' (Kd.S_new' ho0 (Kd.R_lt HO427.out)) (Kd.R_lt HO430.out)) (below_size HB.out))
            have n4_ := Aside0.mk (blk_below BK423.out hb)
            have n5_ := Aside0.mk (below_step HB.out hb)
            revert n0_ n1_ n2_ n3_ n4_ n5_
            clear HO427 HO430 HO436 BK423 HB
            intro HO427 HO430 HO436 HO433 BK423 HB
            (try clear hb)
            (try clear hb2)
            (try clear hk)
            (try clear hi)
            (try clear ho0)
            refine hK.out _ _ ((blk_cell BK423.out 0).trans rfl) (fun hHeld => ?_)
            clear hK K
            refine norm_ (a' := ?_) ?_ ?_
            rotate_left
            ·show Act.put _ (some 26) _ = _
             simp only [Act.put, List.setIfInBounds_toArray, List.set_cons_zero, List.set_cons_succ, i64_w, i32_w]
             rfl
            refine pure_ (i := 8) (N := some 8) (v := ?_) (a' := ?_) #[true, true, true, true, true, true, true, false, true, false, false] rfl rfl (any_of HT_.out (by kernel_rfl)) (fun _ _ _ h => h) (Or.inl ⟨by rfl, ?_⟩) ?_ ?_
            rotate_left
            ·intro w'
             go_simp
             with_reducible rfl
            rotate_left
            ·simp only [Act.put, List.setIfInBounds_toArray, List.set_cons_zero, List.set_cons_succ, i64_w, i32_w]
             rfl
            refine pure_ (i := 9) (N := some 9) (v := ?_) (a' := ?_) #[true, true, true, true, true, true, true, false, true, true, false] rfl rfl (any_of HT_.out (by kernel_rfl)) (fun _ _ _ h => h) (Or.inl ⟨by rfl, ?_⟩) ?_ ?_
            rotate_left
            ·intro w'
             go_simp
             with_reducible rfl
            rotate_left
            ·simp only [Act.put, List.setIfInBounds_toArray, List.set_cons_zero, List.set_cons_succ, i64_w, i32_w]
             rfl
            exact norm_ (by first | (simp only [putAll, Act.put, List.setIfInBounds_toArray, List.set_cons_zero, List.set_cons_succ]; done) | (simp only [putAll, Act.put, List.setIfInBounds_toArray, List.set_cons_zero, List.set_cons_succ]; rfl)) (hJ2_6 (v432, v435) _ ⟨hHeld, (by (with_reducible repeat (first | apply Kd.R_alloc | apply Kd.R_drewN | apply Kd.R_drew)); exact HO427.out), (by (with_reducible repeat (first | apply Kd.R_alloc | apply Kd.R_drewN | apply Kd.R_drew)); exact HO430.out), (by (with_reducible repeat (first | apply Kd.S_alloc | apply Kd.S_drewN | apply Kd.S_drew)); exact Kd.S_mono HO433.out (fun _ hk => ⟨hk.1.2, hk.2⟩)), (by (with_reducible repeat (first | apply Kd.R_alloc | apply Kd.R_drewN | apply Kd.R_drew)); exact HO436.out), (by (with_reducible repeat (first | refine blk_drewN ?_ _ | refine blk_drew ?_ | refine blk_alloc ?_ _)); exact BK423.out), (by repeat (first | (with_reducible first | exact HB.out | apply below_alloc | apply pw_below_drewN | apply below_drew1 | refine below_set ?_ GE423.out) | exact HB.out))⟩)
           ·skip
            refine Kd.R_lit_step (Kd.int .i64) _ 3 ?hg (N := 31) ?hd (xs := ([] : List Int)) (inner := []) (ok := fun _ => True) (okp := fun _ => True) ?hr ?hp (fun _ hk => hk) trivial (Below.refl _ _) (Nat.le_refl _) (by simp) ?_; (case hd => rfl); (case hg => rfl); (case hr => first | (go_simp; done) | (go_simp; rfl)); (case hp => exact (Reps.none _ _))
            intro v438 w21 ho22 hb hg_ hnew_
            clear hg_ hnew_
            (first | rw [← Ny437.out] at ho22 | (simp only [Int.reduceToNat] at ho22; rw [← Ny437.out] at ho22))
            have n0_ := Aside0.mk (Kd.R_elder' HO427.out (Kd.R_base ho22) hb)
            have n1_ := Aside0.mk (Kd.R_elder' HO430.out (Kd.R_base ho22) hb)
            have n2_ := Aside0.mk (Kd.R_below HO436.out hb)
            have n3_ := Aside0.mk (Kd.R_lower (Kd.R_new' (Kd.R_new' ho22 (Kd.R_lt HO427.out)) (Kd.R_lt HO430.out)) (below_size HB.out))
            have n4_ := Aside0.mk (blk_below BK423.out hb)
            have n5_ := Aside0.mk (below_step HB.out hb)
            revert n0_ n1_ n2_ n3_ n4_ n5_
            clear HO427 HO430 HO436 BK423 HB
            intro HO427 HO430 HO436 HO439 BK423 HB
            clear hb ho22
            refine hK.out _ _ ((blk_cell BK423.out 0).trans rfl) (fun hHeld => ?_)
            clear hK K
            refine norm_ (a' := ?_) ?_ ?_
            rotate_left
            ·show Act.put _ (some 31) _ = _
             simp only [Act.put, List.setIfInBounds_toArray, List.set_cons_zero, List.set_cons_succ, i64_w, i32_w]
             rfl
            exact norm_ (by first | (simp only [putAll, Act.put, List.setIfInBounds_toArray, List.set_cons_zero, List.set_cons_succ]; done) | (simp only [putAll, Act.put, List.setIfInBounds_toArray, List.set_cons_zero, List.set_cons_succ]; rfl)) (hJ6_7 (v435, v438) _ ⟨hHeld, (by (with_reducible repeat (first | apply Kd.R_alloc | apply Kd.R_drewN | apply Kd.R_drew)); exact HO427.out), (by (with_reducible repeat (first | apply Kd.R_alloc | apply Kd.R_drewN | apply Kd.R_drew)); exact HO430.out), (by (with_reducible repeat (first | apply Kd.R_alloc | apply Kd.R_drewN | apply Kd.R_drew)); exact HO436.out), (by (with_reducible repeat (first | apply Kd.R_alloc | apply Kd.R_drewN | apply Kd.R_drew)); exact Kd.R_mono HO439.out (fun _ hk => ⟨hk.1.2, hk.2⟩)), (by (with_reducible repeat (first | refine blk_drewN ?_ _ | refine blk_drew ?_ | refine blk_alloc ?_ _)); exact BK423.out), (by repeat (first | (with_reducible first | exact HB.out | apply below_alloc | apply pw_below_drewN | apply below_drew1 | refine below_set ?_ GE423.out) | exact HB.out))⟩)
         ·skip
          rintro v432 w19 ⟨hS_, h0_, h1_, h2_, h3_, h4_⟩
          have n0_ : Aside0 (Kd.R (Kd.int .i64) 3 w19 w.heap.size (fun k_ => some k_ ≠ (v429 : Value).ownBlock) v426 t425) := ⟨h0_⟩
          have n1_ : Aside0 (Kd.R (Kd.int .i64) 3 w19 w.heap.size (fun k_ => some k_ ≠ (v426 : Value).ownBlock) v429 t428) := ⟨h1_⟩
          have n2_ : Aside0 (Kd.S (Kd.slice 3 (Kd.int .i64)) 38 w19 w.heap.size (fun k_ => some k_ ≠ (v426 : Value).ownBlock ∧ some k_ ≠ (v429 : Value).ownBlock) v432 t431) := ⟨h2_⟩
          have n3_ : Aside0 (w19.heap[gb423]? = some (.cells #[.slice A0_0 l0_0.length c0_0] 31 (0, 0))) := ⟨h3_⟩
          have n4_ : Aside0 (Below w.heap.size w w19) := ⟨h4_⟩
          clear HO427
          clear HO430
          clear BK423
          clear HB
          clear h0_ h1_ h2_ h3_ h4_
          have HO427 := n0_
          have HO430 := n1_
          have HO433 := n2_
          have BK423 := n3_
          have HB := n4_
          clear n0_ n1_ n2_ n3_ n4_
          have hHeld : w19.cell? ⟨gb423, 0, none⟩ = some (.slice A0_0 l0_0.length c0_0) := hS_
          refine norm_ (a' := ?_) ?_ ?_
          rotate_left
          ·simp only [putAll, Act.put, List.setIfInBounds_toArray, List.set_cons_zero, List.set_cons_succ]
           rfl
          refine two_ (i := 6) (j := 7) (Ni := some 30) (Nj := some 31) #[true, true, true, true, true, true, true, false, true, false, false] #[true, true, true, true, true, true, false, true, true, false, false] rfl rfl rfl rfl (two_of HT_.out (by kernel_rfl)) (by decide) (by decide) (fun K hK => ?_) (fun K hK => ?_)
          ·skip
           refine Kd.R_make_step Kd.bool _ 4 (by rfl) (N := 30) rfl 60 _ _ rfl ji7 rfl rfl Tryz.underlying60 (.bool false) 1 info4 rfl (by decide) (by omega) false (ok := fun _ => True) (okp := fun _ => True) rfl (fun _ hk => hk) trivial (of_decide_eq_true (by first | (with_reducible assumption) | assumption)) (Nat.le_trans (Nat.mul_le_mul_right _ (of_decide_eq_true (by first | (with_reducible assumption) | assumption) : ji7.toNat ≤ 281474976710656)) (by omega)) (Below.refl _ _) (Nat.le_refl _) ?_
           intro v435 w20 ho21 hb hg_ hnew_
           clear hg_ hnew_
           (first | rw [← Ny434.out] at ho21 | (simp only [Int.reduceToNat] at ho21; rw [← Ny434.out] at ho21))
           have n0_ := Aside0.mk (Kd.R_below HO427.out hb)
           have n1_ := Aside0.mk (Kd.R_below HO430.out hb)
           have n2_ := Aside0.mk (Kd.S_below (by (with_reducible repeat (first | apply Kd.S_alloc | apply Kd.S_drewN | apply Kd.S_drew)); exact HO433.out) hb)
           have n3_ := Aside0.mk (Kd.R_lower ho21 (below_size HB.out))
           have n4_ := Aside0.mk (blk_below BK423.out hb)
           have n5_ := Aside0.mk (below_step HB.out hb)
           revert n0_ n1_ n2_ n3_ n4_ n5_
           clear HO427 HO430 HO433 BK423 HB
           intro HO427 HO430 HO433 HO436 BK423 HB
           clear hb ho21
           refine hK.out _ _ ((blk_cell BK423.out 0).trans rfl) (fun hHeld => ?_)
           clear hK K
           refine norm_ (a' := ?_) ?_ ?_
           rotate_left
           ·show Act.put _ (some 30) _ = _
            simp only [Act.put, List.setIfInBounds_toArray, List.set_cons_zero, List.set_cons_succ, i64_w, i32_w]
            rfl
           refine pure_ (i := 9) (N := some 9) (v := ?_) (a' := ?_) #[true, true, true, true, true, true, true, false, true, true, false] rfl rfl (any_of HT_.out (by kernel_rfl)) (fun _ _ _ h => h) (Or.inl ⟨by rfl, ?_⟩) ?_ ?_
           rotate_left
           ·intro w'
            go_simp
            with_reducible rfl
           rotate_left
           ·simp only [Act.put, List.setIfInBounds_toArray, List.set_cons_zero, List.set_cons_succ, i64_w, i32_w]
            rfl
           exact norm_ (by first | (simp only [putAll, Act.put, List.setIfInBounds_toArray, List.set_cons_zero, List.set_cons_succ]; done) | (simp only [putAll, Act.put, List.setIfInBounds_toArray, List.set_cons_zero, List.set_cons_succ]; rfl)) (hJ2_6 (v432, v435) _ ⟨hHeld, (by (with_reducible repeat (first | apply Kd.R_alloc | apply Kd.R_drewN | apply Kd.R_drew)); exact HO427.out), (by (with_reducible repeat (first | apply Kd.R_alloc | apply Kd.R_drewN | apply Kd.R_drew)); exact HO430.out), (by (with_reducible repeat (first | apply Kd.S_alloc | apply Kd.S_drewN | apply Kd.S_drew)); exact HO433.out), (by (with_reducible repeat (first | apply Kd.R_alloc | apply Kd.R_drewN | apply Kd.R_drew)); exact HO436.out), (by (with_reducible repeat (first | refine blk_drewN ?_ _ | refine blk_drew ?_ | refine blk_alloc ?_ _)); exact BK423.out), (by repeat (first | (with_reducible first | exact HB.out | apply below_alloc | apply pw_below_drewN | apply below_drew1 | refine below_set ?_ GE423.out) | exact HB.out))⟩)
          ·skip
           refine Kd.R_lit_step (Kd.int .i64) _ 3 ?hg (N := 31) ?hd (xs := ([] : List Int)) (inner := []) (ok := fun _ => True) (okp := fun _ => True) ?hr ?hp (fun _ hk => hk) trivial (Below.refl _ _) (Nat.le_refl _) (by simp) ?_; (case hd => rfl); (case hg => rfl); (case hr => first | (go_simp; done) | (go_simp; rfl)); (case hp => exact (Reps.none _ _))
           intro v438 w20 ho21 hb hg_ hnew_
           clear hg_ hnew_
           (first | rw [← Ny437.out] at ho21 | (simp only [Int.reduceToNat] at ho21; rw [← Ny437.out] at ho21))
           have n0_ := Aside0.mk (Kd.R_elder' HO427.out (Kd.R_base ho21) hb)
           have n1_ := Aside0.mk (Kd.R_elder' HO430.out (Kd.R_base ho21) hb)
           have n2_ := Aside0.mk (Kd.S_elder' (by (with_reducible repeat (first | apply Kd.S_alloc | apply Kd.S_drewN | apply Kd.S_drew)); exact HO433.out) (Kd.R_base ho21) hb)
           have n3_ := Aside0.mk (Kd.R_lower (Kd.R_new' (Kd.R_new' ho21 (Kd.R_lt HO427.out)) (Kd.R_lt HO430.out)) (below_size HB.out))
           have n4_ := Aside0.mk (blk_below BK423.out hb)
           have n5_ := Aside0.mk (below_step HB.out hb)
           revert n0_ n1_ n2_ n3_ n4_ n5_
           clear HO427 HO430 HO433 BK423 HB
           intro HO427 HO430 HO433 HO439 BK423 HB
           clear hb ho21
           refine hK.out _ _ ((blk_cell BK423.out 0).trans rfl) (fun hHeld => ?_)
           clear hK K
           refine norm_ (a' := ?_) ?_ ?_
           rotate_left
           ·show Act.put _ (some 31) _ = _
            simp only [Act.put, List.setIfInBounds_toArray, List.set_cons_zero, List.set_cons_succ, i64_w, i32_w]
            rfl
           exact norm_ (by first | (simp only [putAll, Act.put, List.setIfInBounds_toArray, List.set_cons_zero, List.set_cons_succ]; done) | (simp only [putAll, Act.put, List.setIfInBounds_toArray, List.set_cons_zero, List.set_cons_succ]; rfl)) (hJ2_7 (v432, v438) _ ⟨hHeld, (by (with_reducible repeat (first | apply Kd.R_alloc | apply Kd.R_drewN | apply Kd.R_drew)); exact HO427.out), (by (with_reducible repeat (first | apply Kd.R_alloc | apply Kd.R_drewN | apply Kd.R_drew)); exact HO430.out), (by (with_reducible repeat (first | apply Kd.S_alloc | apply Kd.S_drewN | apply Kd.S_drew)); exact Kd.S_mono HO433.out (fun _ hk => ⟨hk.1.1, ⟨hk.1.2, hk.2⟩⟩)), (by (with_reducible repeat (first | apply Kd.R_alloc | apply Kd.R_drewN | apply Kd.R_drew)); exact Kd.R_mono HO439.out (fun _ hk => ⟨hk.1.2, hk.2⟩)), (by (with_reducible repeat (first | refine blk_drewN ?_ _ | refine blk_drew ?_ | refine blk_alloc ?_ _)); exact BK423.out), (by repeat (first | (with_reducible first | exact HB.out | apply below_alloc | apply pw_below_drewN | apply below_drew1 | refine below_set ?_ GE423.out) | exact HB.out))⟩)
        ·skip
         rintro ⟨v435, v438⟩ w22 ⟨hS_, h0_, h1_, h2_, h3_, h4_, h5_⟩
         have n0_ : Aside0 (Kd.R (Kd.int .i64) 3 w22 w.heap.size (fun k_ => some k_ ≠ (v429 : Value).ownBlock ∧ some k_ ≠ (v438 : Value).ownBlock) v426 t425) := ⟨h0_⟩
         have n1_ : Aside0 (Kd.R (Kd.int .i64) 3 w22 w.heap.size (fun k_ => some k_ ≠ (v426 : Value).ownBlock ∧ some k_ ≠ (v438 : Value).ownBlock) v429 t428) := ⟨h1_⟩
         have n2_ : Aside0 (Kd.R Kd.bool 4 w22 w.heap.size (fun _ => True) v435 y434) := ⟨h2_⟩
         have n3_ : Aside0 (Kd.R (Kd.int .i64) 3 w22 w.heap.size (fun k_ => some k_ ≠ (v426 : Value).ownBlock ∧ some k_ ≠ (v429 : Value).ownBlock) v438 y437) := ⟨h3_⟩
         have n4_ : Aside0 (w22.heap[gb423]? = some (.cells #[.slice A0_0 l0_0.length c0_0] 31 (0, 0))) := ⟨h4_⟩
         have n5_ : Aside0 (Below w.heap.size w w22) := ⟨h5_⟩
         clear HO427
         clear HO430
         clear BK423
         clear HB
         clear h0_ h1_ h2_ h3_ h4_ h5_
         have HO427 := n0_
         have HO430 := n1_
         have HO436 := n2_
         have HO439 := n3_
         have BK423 := n4_
         have HB := n5_
         clear n0_ n1_ n2_ n3_ n4_ n5_
         have hHeld : w22.cell? ⟨gb423, 0, none⟩ = some (.slice A0_0 l0_0.length c0_0) := hS_
         refine norm_ (a' := ?_) ?_ ?_
         rotate_left
         ·simp only [putAll, Act.put, List.setIfInBounds_toArray, List.set_cons_zero, List.set_cons_succ]
          rfl
         refine one_ (i := 2) (N := some 26) #[true, true, true, true, true, true, true, true, false, false, false] rfl rfl (one_of HT_.out (by kernel_rfl)) (by decide) (fun K hK => ?_)
         refine goes_ Tryz.func31 (by kernel_rfl) rfl #[.agg #[.slice A0_0 l0_0.length c0_0], .string a1] (by rfl) rfl rfl (by (try simp only [List.map_toArray, List.map_cons, List.map_nil]); first | done | rfl | (simp only [List.length_drop, List.length_take]; rfl)) ?_
         with_reducible refine (impl_Trie_standing.calls _ _ l0_0 a1 t431 _ ?side1 ?side2 A6.out).mono ?_
         (case side1 => exact (Kd.C_below HR0_0.out HB.out))
         (case side2 => exact HC0_0.out)
         rintro e w23 ⟨v432, rfl, ho0, hb⟩
         refine ⟨_, rfl, ?_⟩
         have n0_ := Aside0.mk (Kd.R_below HO427.out hb)
         have n1_ := Aside0.mk (Kd.R_below HO430.out hb)
         have n2_ := Aside0.mk (Kd.R_below HO436.out hb)
         have n3_ := Aside0.mk (Kd.R_below HO439.out hb)
         have n4_ := Aside0.mk (Kd.S_lower (Kd.S_new' (Kd.S_new' (Kd.S_new' ho0 (Kd.R_lt HO427.out)) (Kd.R_lt HO430.out)) (Kd.R_lt HO439.out)) (below_size HB.out))
         have n5_ := Aside0.mk (blk_below BK423.out hb)
         have n6_ := Aside0.mk (below_step HB.out hb)
         revert n0_ n1_ n2_ n3_ n4_ n5_ n6_
         clear HO427 HO430 HO436 HO439 BK423 HB
         intro HO427 HO430 HO436 HO439 HO433 BK423 HB
         (try clear hb)
         (try clear hb2)
         (try clear hk)
         (try clear hi)
         (try clear ho0)
         refine hK.out _ _ ((blk_cell BK423.out 0).trans rfl) (fun hHeld => ?_)
         clear hK K
         refine norm_ (a' := ?_) ?_ ?_
         rotate_left
         ·show Act.put _ (some 26) _ = _
          simp only [Act.put, List.setIfInBounds_toArray, List.set_cons_zero, List.set_cons_succ, i64_w, i32_w]
          rfl
         refine pure_ (i := 8) (N := some 8) (v := ?_) (a' := ?_) #[true, true, true, true, true, true, true, true, true, false, false] rfl rfl (any_of HT_.out (by kernel_rfl)) (fun _ _ _ h => h) (Or.inl ⟨by rfl, ?_⟩) ?_ ?_
         rotate_left
         ·intro w'
          go_simp
          with_reducible rfl
         rotate_left
         ·simp only [Act.put, List.setIfInBounds_toArray, List.set_cons_zero, List.set_cons_succ, i64_w, i32_w]
          rfl
         refine pure_ (i := 9) (N := some 9) (v := ?_) (a' := ?_) #[true, true, true, true, true, true, true, true, true, true, false] rfl rfl (any_of HT_.out (by kernel_rfl)) (fun _ _ _ h => h) (Or.inl ⟨by rfl, ?_⟩) ?_ ?_
         rotate_left
         ·intro w'
          go_simp
          with_reducible rfl
         rotate_left
         ·simp only [Act.put, List.setIfInBounds_toArray, List.set_cons_zero, List.set_cons_succ, i64_w, i32_w]
          rfl
         exact norm_ (by first | (simp only [putAll, Act.put, List.setIfInBounds_toArray, List.set_cons_zero, List.set_cons_succ]; done) | (simp only [putAll, Act.put, List.setIfInBounds_toArray, List.set_cons_zero, List.set_cons_succ]; rfl)) (hJ2_6_7 (v432, v435, v438) _ ⟨hHeld, (by (with_reducible repeat (first | apply Kd.R_alloc | apply Kd.R_drewN | apply Kd.R_drew)); exact HO427.out), (by (with_reducible repeat (first | apply Kd.R_alloc | apply Kd.R_drewN | apply Kd.R_drew)); exact HO430.out), (by (with_reducible repeat (first | apply Kd.S_alloc | apply Kd.S_drewN | apply Kd.S_drew)); exact Kd.S_mono HO433.out (fun _ hk => ⟨hk.1.1.2, ⟨hk.1.2, hk.2⟩⟩)), (by (with_reducible repeat (first | apply Kd.R_alloc | apply Kd.R_drewN | apply Kd.R_drew)); exact HO436.out), (by (with_reducible repeat (first | apply Kd.R_alloc | apply Kd.R_drewN | apply Kd.R_drew)); exact HO439.out), (by (with_reducible repeat (first | refine blk_drewN ?_ _ | refine blk_drew ?_ | refine blk_alloc ?_ _)); exact BK423.out), (by repeat (first | (with_reducible first | exact HB.out | apply below_alloc | apply pw_below_drewN | apply below_drew1 | refine below_set ?_ GE423.out) | exact HB.out))⟩)
       ·skip
        rintro ⟨v432, v438⟩ w21 ⟨hS_, h0_, h1_, h2_, h3_, h4_, h5_⟩
        have n0_ : Aside0 (Kd.R (Kd.int .i64) 3 w21 w.heap.size (fun k_ => some k_ ≠ (v429 : Value).ownBlock ∧ some k_ ≠ (v438 : Value).ownBlock) v426 t425) := ⟨h0_⟩
        have n1_ : Aside0 (Kd.R (Kd.int .i64) 3 w21 w.heap.size (fun k_ => some k_ ≠ (v426 : Value).ownBlock ∧ some k_ ≠ (v438 : Value).ownBlock) v429 t428) := ⟨h1_⟩
        have n2_ : Aside0 (Kd.S (Kd.slice 3 (Kd.int .i64)) 38 w21 w.heap.size (fun k_ => some k_ ≠ (v426 : Value).ownBlock ∧ some k_ ≠ (v429 : Value).ownBlock ∧ some k_ ≠ (v438 : Value).ownBlock) v432 t431) := ⟨h2_⟩
        have n3_ : Aside0 (Kd.R (Kd.int .i64) 3 w21 w.heap.size (fun k_ => some k_ ≠ (v426 : Value).ownBlock ∧ some k_ ≠ (v429 : Value).ownBlock) v438 y437) := ⟨h3_⟩
        have n4_ : Aside0 (w21.heap[gb423]? = some (.cells #[.slice A0_0 l0_0.length c0_0] 31 (0, 0))) := ⟨h4_⟩
        have n5_ : Aside0 (Below w.heap.size w w21) := ⟨h5_⟩
        clear HO427
        clear HO430
        clear BK423
        clear HB
        clear h0_ h1_ h2_ h3_ h4_ h5_
        have HO427 := n0_
        have HO430 := n1_
        have HO433 := n2_
        have HO439 := n3_
        have BK423 := n4_
        have HB := n5_
        clear n0_ n1_ n2_ n3_ n4_ n5_
        have hHeld : w21.cell? ⟨gb423, 0, none⟩ = some (.slice A0_0 l0_0.length c0_0) := hS_
        refine norm_ (a' := ?_) ?_ ?_
        rotate_left
        ·simp only [putAll, Act.put, List.setIfInBounds_toArray, List.set_cons_zero, List.set_cons_succ]
         rfl
        refine one_ (i := 6) (N := some 30) #[true, true, true, true, true, true, true, true, true, false, false] rfl rfl (one_of HT_.out (by kernel_rfl)) (by decide) (fun K hK => ?_)
        refine Kd.R_make_step Kd.bool _ 4 (by rfl) (N := 30) rfl 60 _ _ rfl ji7 rfl rfl Tryz.underlying60 (.bool false) 1 info4 rfl (by decide) (by omega) false (ok := fun _ => True) (okp := fun _ => True) rfl (fun _ hk => hk) trivial (of_decide_eq_true (by first | (with_reducible assumption) | assumption)) (Nat.le_trans (Nat.mul_le_mul_right _ (of_decide_eq_true (by first | (with_reducible assumption) | assumption) : ji7.toNat ≤ 281474976710656)) (by omega)) (Below.refl _ _) (Nat.le_refl _) ?_
        intro v435 w22 ho23 hb hg_ hnew_
        clear hg_ hnew_
        (first | rw [← Ny434.out] at ho23 | (simp only [Int.reduceToNat] at ho23; rw [← Ny434.out] at ho23))
        have n0_ := Aside0.mk (Kd.R_below HO427.out hb)
        have n1_ := Aside0.mk (Kd.R_below HO430.out hb)
        have n2_ := Aside0.mk (Kd.S_below (by (with_reducible repeat (first | apply Kd.S_alloc | apply Kd.S_drewN | apply Kd.S_drew)); exact HO433.out) hb)
        have n3_ := Aside0.mk (Kd.R_below HO439.out hb)
        have n4_ := Aside0.mk (Kd.R_lower ho23 (below_size HB.out))
        have n5_ := Aside0.mk (blk_below BK423.out hb)
        have n6_ := Aside0.mk (below_step HB.out hb)
        revert n0_ n1_ n2_ n3_ n4_ n5_ n6_
        clear HO427 HO430 HO433 HO439 BK423 HB
        intro HO427 HO430 HO433 HO439 HO436 BK423 HB
        clear hb ho23
        refine hK.out _ _ ((blk_cell BK423.out 0).trans rfl) (fun hHeld => ?_)
        clear hK K
        refine norm_ (a' := ?_) ?_ ?_
        rotate_left
        ·show Act.put _ (some 30) _ = _
         simp only [Act.put, List.setIfInBounds_toArray, List.set_cons_zero, List.set_cons_succ, i64_w, i32_w]
         rfl
        refine pure_ (i := 9) (N := some 9) (v := ?_) (a' := ?_) #[true, true, true, true, true, true, true, true, true, true, false] rfl rfl (any_of HT_.out (by kernel_rfl)) (fun _ _ _ h => h) (Or.inl ⟨by rfl, ?_⟩) ?_ ?_
        rotate_left
        ·intro w'
         go_simp
         with_reducible rfl
        rotate_left
        ·simp only [Act.put, List.setIfInBounds_toArray, List.set_cons_zero, List.set_cons_succ, i64_w, i32_w]
         rfl
        exact norm_ (by first | (simp only [putAll, Act.put, List.setIfInBounds_toArray, List.set_cons_zero, List.set_cons_succ]; done) | (simp only [putAll, Act.put, List.setIfInBounds_toArray, List.set_cons_zero, List.set_cons_succ]; rfl)) (hJ2_6_7 (v432, v435, v438) _ ⟨hHeld, (by (with_reducible repeat (first | apply Kd.R_alloc | apply Kd.R_drewN | apply Kd.R_drew)); exact HO427.out), (by (with_reducible repeat (first | apply Kd.R_alloc | apply Kd.R_drewN | apply Kd.R_drew)); exact HO430.out), (by (with_reducible repeat (first | apply Kd.S_alloc | apply Kd.S_drewN | apply Kd.S_drew)); exact HO433.out), (by (with_reducible repeat (first | apply Kd.R_alloc | apply Kd.R_drewN | apply Kd.R_drew)); exact HO436.out), (by (with_reducible repeat (first | apply Kd.R_alloc | apply Kd.R_drewN | apply Kd.R_drew)); exact HO439.out), (by (with_reducible repeat (first | refine blk_drewN ?_ _ | refine blk_drew ?_ | refine blk_alloc ?_ _)); exact BK423.out), (by repeat (first | (with_reducible first | exact HB.out | apply below_alloc | apply pw_below_drewN | apply below_drew1 | refine below_set ?_ GE423.out) | exact HB.out))⟩)
      ·skip
       rintro ⟨v432, v435⟩ w21 ⟨hS_, h0_, h1_, h2_, h3_, h4_, h5_⟩
       have n0_ : Aside0 (Kd.R (Kd.int .i64) 3 w21 w.heap.size (fun k_ => some k_ ≠ (v429 : Value).ownBlock) v426 t425) := ⟨h0_⟩
       have n1_ : Aside0 (Kd.R (Kd.int .i64) 3 w21 w.heap.size (fun k_ => some k_ ≠ (v426 : Value).ownBlock) v429 t428) := ⟨h1_⟩
       have n2_ : Aside0 (Kd.S (Kd.slice 3 (Kd.int .i64)) 38 w21 w.heap.size (fun k_ => some k_ ≠ (v426 : Value).ownBlock ∧ some k_ ≠ (v429 : Value).ownBlock) v432 t431) := ⟨h2_⟩
       have n3_ : Aside0 (Kd.R Kd.bool 4 w21 w.heap.size (fun _ => True) v435 y434) := ⟨h3_⟩
       have n4_ : Aside0 (w21.heap[gb423]? = some (.cells #[.slice A0_0 l0_0.length c0_0] 31 (0, 0))) := ⟨h4_⟩
       have n5_ : Aside0 (Below w.heap.size w w21) := ⟨h5_⟩
       clear HO427
       clear HO430
       clear BK423
       clear HB
       clear h0_ h1_ h2_ h3_ h4_ h5_
       have HO427 := n0_
       have HO430 := n1_
       have HO433 := n2_
       have HO436 := n3_
       have BK423 := n4_
       have HB := n5_
       clear n0_ n1_ n2_ n3_ n4_ n5_
       have hHeld : w21.cell? ⟨gb423, 0, none⟩ = some (.slice A0_0 l0_0.length c0_0) := hS_
       refine norm_ (a' := ?_) ?_ ?_
       rotate_left
       ·simp only [putAll, Act.put, List.setIfInBounds_toArray, List.set_cons_zero, List.set_cons_succ]
        rfl
       refine one_ (i := 7) (N := some 31) #[true, true, true, true, true, true, true, true, true, true, false] rfl rfl (one_of HT_.out (by kernel_rfl)) (by decide) (fun K hK => ?_)
       refine Kd.R_lit_step (Kd.int .i64) _ 3 ?hg (N := 31) ?hd (xs := ([] : List Int)) (inner := []) (ok := fun _ => True) (okp := fun _ => True) ?hr ?hp (fun _ hk => hk) trivial (Below.refl _ _) (Nat.le_refl _) (by simp) ?_; (case hd => rfl); (case hg => rfl); (case hr => first | (go_simp; done) | (go_simp; rfl)); (case hp => exact (Reps.none _ _))
       intro v438 w22 ho23 hb hg_ hnew_
       clear hg_ hnew_
       (first | rw [← Ny437.out] at ho23 | (simp only [Int.reduceToNat] at ho23; rw [← Ny437.out] at ho23))
       have n0_ := Aside0.mk (Kd.R_elder' HO427.out (Kd.R_base ho23) hb)
       have n1_ := Aside0.mk (Kd.R_elder' HO430.out (Kd.R_base ho23) hb)
       have n2_ := Aside0.mk (Kd.S_elder' (by (with_reducible repeat (first | apply Kd.S_alloc | apply Kd.S_drewN | apply Kd.S_drew)); exact HO433.out) (Kd.R_base ho23) hb)
       have n3_ := Aside0.mk (Kd.R_below HO436.out hb)
       have n4_ := Aside0.mk (Kd.R_lower (Kd.R_new' (Kd.R_new' ho23 (Kd.R_lt HO427.out)) (Kd.R_lt HO430.out)) (below_size HB.out))
       have n5_ := Aside0.mk (blk_below BK423.out hb)
       have n6_ := Aside0.mk (below_step HB.out hb)
       revert n0_ n1_ n2_ n3_ n4_ n5_ n6_
       clear HO427 HO430 HO433 HO436 BK423 HB
       intro HO427 HO430 HO433 HO436 HO439 BK423 HB
       clear hb ho23
       refine hK.out _ _ ((blk_cell BK423.out 0).trans rfl) (fun hHeld => ?_)
       clear hK K
       refine norm_ (a' := ?_) ?_ ?_
       rotate_left
       ·show Act.put _ (some 31) _ = _
        simp only [Act.put, List.setIfInBounds_toArray, List.set_cons_zero, List.set_cons_succ, i64_w, i32_w]
        rfl
       exact norm_ (by first | (simp only [putAll, Act.put, List.setIfInBounds_toArray, List.set_cons_zero, List.set_cons_succ]; done) | (simp only [putAll, Act.put, List.setIfInBounds_toArray, List.set_cons_zero, List.set_cons_succ]; rfl)) (hJ2_6_7 (v432, v435, v438) _ ⟨hHeld, (by (with_reducible repeat (first | apply Kd.R_alloc | apply Kd.R_drewN | apply Kd.R_drew)); exact HO427.out), (by (with_reducible repeat (first | apply Kd.R_alloc | apply Kd.R_drewN | apply Kd.R_drew)); exact HO430.out), (by (with_reducible repeat (first | apply Kd.S_alloc | apply Kd.S_drewN | apply Kd.S_drew)); exact Kd.S_mono HO433.out (fun _ hk => ⟨hk.1.1, ⟨hk.1.2, hk.2⟩⟩)), (by (with_reducible repeat (first | apply Kd.R_alloc | apply Kd.R_drewN | apply Kd.R_drew)); exact HO436.out), (by (with_reducible repeat (first | apply Kd.R_alloc | apply Kd.R_drewN | apply Kd.R_drew)); exact Kd.R_mono HO439.out (fun _ hk => ⟨hk.1.2, hk.2⟩)), (by (with_reducible repeat (first | refine blk_drewN ?_ _ | refine blk_drew ?_ | refine blk_alloc ?_ _)); exact BK423.out), (by repeat (first | (with_reducible first | exact HB.out | apply below_alloc | apply pw_below_drewN | apply below_drew1 | refine below_set ?_ GE423.out) | exact HB.out))⟩)
     rintro ⟨v432, v435, v438⟩ w23 ⟨hS_, h0_, h1_, h2_, h3_, h4_, h5_, h6_⟩
     have n0_ : Aside0 (Kd.R (Kd.int .i64) 3 w23 w.heap.size (fun k_ => some k_ ≠ (v429 : Value).ownBlock ∧ some k_ ≠ (v438 : Value).ownBlock) v426 t425) := ⟨h0_⟩
     have n1_ : Aside0 (Kd.R (Kd.int .i64) 3 w23 w.heap.size (fun k_ => some k_ ≠ (v426 : Value).ownBlock ∧ some k_ ≠ (v438 : Value).ownBlock) v429 t428) := ⟨h1_⟩
     have n2_ : Aside0 (Kd.S (Kd.slice 3 (Kd.int .i64)) 38 w23 w.heap.size (fun k_ => some k_ ≠ (v426 : Value).ownBlock ∧ some k_ ≠ (v429 : Value).ownBlock ∧ some k_ ≠ (v438 : Value).ownBlock) v432 t431) := ⟨h2_⟩
     have n3_ : Aside0 (Kd.R Kd.bool 4 w23 w.heap.size (fun _ => True) v435 y434) := ⟨h3_⟩
     have n4_ : Aside0 (Kd.R (Kd.int .i64) 3 w23 w.heap.size (fun k_ => some k_ ≠ (v426 : Value).ownBlock ∧ some k_ ≠ (v429 : Value).ownBlock) v438 y437) := ⟨h4_⟩
     have n5_ : Aside0 (w23.heap[gb423]? = some (.cells #[.slice A0_0 l0_0.length c0_0] 31 (0, 0))) := ⟨h5_⟩
     have n6_ : Aside0 (Below w.heap.size w w23) := ⟨h6_⟩
     clear HO427
     clear HO430
     clear BK423
     clear HB
     clear h0_ h1_ h2_ h3_ h4_ h5_ h6_
     have HO427 := n0_
     have HO430 := n1_
     have HO433 := n2_
     have HO436 := n3_
     have HO439 := n4_
     have BK423 := n5_
     have HB := n6_
     clear n0_ n1_ n2_ n3_ n4_ n5_ n6_
     have hHeld : w23.cell? ⟨gb423, 0, none⟩ = some (.slice A0_0 l0_0.length c0_0) := hS_
     refine norm_ (a' := ?_) ?_ ?_
     rotate_left
     ·simp only [putAll, Act.put, List.setIfInBounds_toArray, List.set_cons_zero, List.set_cons_succ]
      rfl
     refine pure_ (i := 10) (N := some 10) (v := ?_) (a' := ?_) #[true, true, true, true, true, true, true, true, true, true, true] rfl rfl (any_of HT_.out (by kernel_rfl)) (fun _ _ _ h => h) (Or.inl ⟨by rfl, ?_⟩) ?_ ?_
     rotate_left
     ·intro w'
      go_simp
      with_reducible rfl
     rotate_left
     ·simp only [Act.put, List.setIfInBounds_toArray, List.set_cons_zero, List.set_cons_succ, i64_w, i32_w]
      rfl
     refine done_ (done_of HT_.out (by kernel_rfl)) ?_
     have p11 : 0 ≤ (0 : Int) := (by omega)
     have q11 : (0 : Int) < ((y434.length : Int) : Int) := of_decide_eq_true (by first | (with_reducible assumption) | assumption)
     have qi11 : (0 < y434.length) = True := eq_true (by omega)
     obtain ⟨go11, co11, eo11, gb11, gl11, cl11, HG11⟩ := Kd.R_form HO436.out (by omega)
     (first | cases eo11 | (injection eo11 with ea_ en_ ec_; (first | subst ea_ | (injection ea_ with ea_; subst ea_)); subst ec_; clear en_))
     have GB11 := Aside0.mk gb11
     have GG11 := Aside0.mk HG11
     clear gb11 gl11 HG11
     obtain ⟨hx11_0, hf11_0⟩ := Kd.R_celln false HO436.out (0 : Int) p11 q11
     (try simp only [Int.toNat_natCast] at hx11_0 hf11_0)
     (try rw [show ((0 : Int)).toNat = 0 from rfl] at hx11_0)
     (try simp only [Nat.reduceMul, Nat.zero_mul, Nat.zero_add, Nat.reduceAdd] at hx11_0)
     (try rw [show ((0 : Int)).toNat = 0 from rfl] at hf11_0)
     (try simp only [Nat.reduceMul, Nat.zero_mul, Nat.zero_add, Nat.reduceAdd] at hf11_0)
     replace p11 := eq_true p11
     replace q11 := eq_true q11
     obtain ⟨hy24_, hz24_⟩ := Kd.R_celln false HO436.out (0 : Int) (by omega) (of_decide_eq_true (by first | (with_reducible assumption) | assumption))
     (try simp only [Int.reduceToNat, Int.toNat_zero, Int.toNat_ofNat, Nat.reduceMul, Nat.zero_mul, Nat.zero_add] at hy24_ hz24_)
     (try rw [show ((0 : Int)).toNat = 0 from rfl] at hy24_)
     (try rw [show ((0 : Int)).toNat = 0 from rfl] at hz24_)
     (try simp only [Int.toNat_natCast] at hy24_ hz24_)
     have HP24 := Kd.R_putg HO436.out (0 : Int) true
     try go_wp2_with (first | ((with_reducible refine gate_store (t := 4) (p := 33) rfl ?_); refine store_event (t := 4) (p := 33) (v := ?vo_w25) (w1 := (w23.setCell ⟨go11, (0 : Int).toNat, none⟩ (.bool true))) ?hg ?ho ?hn ?hr ?_; (case ho => rfl); (case hg => rfl); (case hn => rfl); (case hr => first | (go_simp; done) | (go_simp; rfl)); intro w25 hw; have hg : w23.grownBy w25 (some go11) := (by rw [hw]; exact HP24.2); have hp_ : Kd.R Kd.bool 4 w25 w.heap.size (fun _ => True) (.slice (some ⟨go11, 0, none⟩) y434.length co11) y440 := (by rw [hw, Ny440.out]; exact HP24.1); clear HP24; have n0_ := Aside0.mk (blk_grown (g := gb423) (o := .cells #[.slice A0_0 l0_0.length c0_0] 31 (0, 0)) (by (with_reducible repeat (first | refine blk_drewN ?_ _ | refine blk_drew ?_ | refine blk_alloc ?_ _)); exact BK423.out) hg (Kd.R_ne HO436.out BK423.out (by decide))); have n1_ := Aside0.mk (Kd.R_over' (v := (.slice (some ⟨go11, 0, none⟩) y434.length co11)) (by (with_reducible repeat (first | apply Kd.R_alloc | apply Kd.R_drewN | apply Kd.R_drew)); exact HO427.out) (Kd.R_typed HO436.out) (by decide) hg); have n2_ := Aside0.mk (Kd.R_over' (v := (.slice (some ⟨go11, 0, none⟩) y434.length co11)) (by (with_reducible repeat (first | apply Kd.R_alloc | apply Kd.R_drewN | apply Kd.R_drew)); exact HO430.out) (Kd.R_typed HO436.out) (by decide) hg); have n3_ := Aside0.mk (Kd.S_over' (v := (.slice (some ⟨go11, 0, none⟩) y434.length co11)) (by (with_reducible repeat (first | apply Kd.S_alloc | apply Kd.S_drewN | apply Kd.S_drew)); exact HO433.out) (Kd.R_typed HO436.out) (by decide) hg); have n4_ := Aside0.mk (hp_); have n5_ := Aside0.mk (Kd.R_over' (v := (.slice (some ⟨go11, 0, none⟩) y434.length co11)) (by (with_reducible repeat (first | apply Kd.R_alloc | apply Kd.R_drewN | apply Kd.R_drew)); exact HO439.out) (Kd.R_typed HO436.out) (by decide) hg); have n6_ := Aside0.mk ((by rw [hw]; exact below_set (HB.out) GB11.out : Below w.heap.size w w25)); clear BK423; clear HO427; clear HO430; clear HO433; clear HO436; clear HO439; clear HB; have BK423 := n0_; have HO427 := n1_; have HO430 := n2_; have HO433 := n3_; have HO436 := n4_; have HO439 := n5_; have HB := n6_; clear n0_ n1_ n2_ n3_ n4_ n5_ n6_; clear hg hw hp_))
     go_loopg [10, 36] k (fun kq v10 v36 w' => ∃ (x9_1 : List Bool) (x10_1 : List Int) (x36_1 : Int), v36 = .int .i64 x36_1 ∧ Aside0 (impl_SplitPlaces.l0 kq t425 t431 x9_1 x10_1 (y434.length : Int) x36_1 = some (r1, r2)) ∧ Aside0 (kq ≤ k) ∧ Aside0 (Kd.R (Kd.int .i64) 3 w' w.heap.size (fun k_ => some k_ ≠ (v10 : Value).ownBlock) v426 t425) ∧ Aside0 (Kd.S (Kd.slice 3 (Kd.int .i64)) 38 w' w.heap.size (fun k_ => some k_ ≠ (v426 : Value).ownBlock ∧ some k_ ≠ (v10 : Value).ownBlock) v432 t431) ∧ Aside0 (Kd.R Kd.bool 4 w' w.heap.size (fun _ => True) (.slice (some ⟨go11, 0, none⟩) y434.length co11) x9_1) ∧ Aside0 (Kd.R (Kd.int .i64) 3 w' w.heap.size (fun k_ => some k_ ≠ (v426 : Value).ownBlock) v10 x10_1) ∧ Aside0 (w'.heap[gb423]? = some (.cells #[(.slice A0_0 l0_0.length c0_0)] 31 (0, 0))) ∧ Aside0 (Below w.heap.size w w'))
     case atStart => exact ⟨(y440), (y437), (0), (by first | rfl | (simp; done) | (simp [*]; done)), H', ⟨Nat.le_refl _⟩, ⟨by (with_reducible repeat (first | apply Kd.R_alloc | apply Kd.R_drewN | apply Kd.R_drew)); exact Kd.R_mono HO427.out (fun _ hk => hk.2)⟩, ⟨by (with_reducible repeat (first | apply Kd.S_alloc | apply Kd.S_drewN | apply Kd.S_drew)); exact Kd.S_mono HO433.out (fun _ hk => ⟨hk.1, hk.2.2⟩)⟩, ⟨by (with_reducible repeat (first | apply Kd.R_alloc | apply Kd.R_drewN | apply Kd.R_drew)); exact HO436.out⟩, ⟨by (with_reducible repeat (first | apply Kd.R_alloc | apply Kd.R_drewN | apply Kd.R_drew)); exact Kd.R_mono HO439.out (fun _ hk => hk.1)⟩, ⟨by (with_reducible repeat (first | refine blk_drewN ?_ _ | refine blk_drew ?_ | refine blk_alloc ?_ _)); exact BK423.out⟩, ⟨by repeat (first | (with_reducible first | exact HB.out | apply below_alloc | apply pw_below_drewN | apply below_drew1 | refine below_set ?_ GE423.out) | exact HB.out)⟩⟩
     case round =>
      clear H'
      try clear p1
      try clear q1
      try clear hx1
      try clear qi1
      try clear p2
      try clear c3
      try clear p11
      try clear q11
      try clear hx11
      try clear qi11
      try clear hf11
      try clear hx11_0
      try clear p11
      try clear q11
      obtain ⟨x9_1, x10_1, x36_1, rfl, HA, HK1, HO_6, HO_8, HO_9, HO_10, BK423, HB⟩ := hrel
      have hl9_1 := (Kd.R_reads' HO_9.out).1
      rw [hl9_1] at HO_9
      (try simp only [hl9_1])
      (try simp only [hl9_1] at BK423)
      (try simp only [hl9_1] at HO_6)
      (try simp only [hl9_1] at HO_8)
      (try simp only [hl9_1] at HO_10)
      cases gk with
      | zero => exact absurd HA.out (by simp [impl_SplitPlaces.l0])
      | succ k1 =>
       have H := HA.out
       clear HA
       simp only [impl_SplitPlaces.l0] at H
       by_cases c26 : x36_1 < (y434.length : Int)
       ·rw [if_pos c26] at H
        have c26b0 : decide (x36_1 < (y434.length : Int)) = true := decide_eq_true c26
        (try (have c26b0z := c26b0; simp only [hl9_1] at c26b0z))
        clear c26
        have HC27 := Aside0.mk H
        clear H
        go_upto_region 9 with (fail)
        go_cut [50] (fun v50 wc => ∃ (kq : Nat) (x50_26 : Bool), v50 = .bool x50_26 ∧ Aside0 (impl_SplitPlaces.j1 kq t425 t431 x9_1 x10_1 x36_1 (y434.length : Int) x36_1 x50_26 = some (r1, r2)) ∧ Aside0 (kq ≤ k1) ∧ Aside0 (Kd.R (Kd.int .i64) 3 wc w.heap.size (fun k_ => some k_ ≠ (u10 : Value).ownBlock) v426 t425) ∧ Aside0 (Kd.S (Kd.slice 3 (Kd.int .i64)) 38 wc w.heap.size (fun k_ => some k_ ≠ (v426 : Value).ownBlock ∧ some k_ ≠ (u10 : Value).ownBlock) v432 t431) ∧ Aside0 (Kd.R Kd.bool 4 wc w.heap.size (fun _ => True) (.slice (some ⟨go11, 0, none⟩) x9_1.length co11) x9_1) ∧ Aside0 (Kd.R (Kd.int .i64) 3 wc w.heap.size (fun k_ => some k_ ≠ (v426 : Value).ownBlock) u10 x10_1) ∧ Aside0 (wc.heap[gb423]? = some (.cells #[(.slice A0_0 l0_0.length c0_0)] 31 (0, 0))) ∧ Aside0 (Below w.heap.size w wc))
        case first =>
         have H := HC27.out
         clear HC27
         by_cases c28 : 0 ≤ x36_1
         ·rw [if_pos c28] at H
          have c28b0 : decide (0 ≤ x36_1) = true := decide_eq_true c28
          clear c28
          (first | rw [c28b0] | (simp only [i64_w, i32_w]; rw [c28b0]) | skip)
          by_cases c29 : x36_1 < (x9_1.length : Int)
          ·rw [if_pos c29] at H
           have c29b0 : decide (x36_1 < (x9_1.length : Int)) = true := decide_eq_true c29
           clear c29
           obtain ⟨bq30, hbq30⟩ : ∃ b_ : Bool, b_ = (rdOf false x9_1 x36_1) := ⟨_, rfl⟩
           replace H : (if bq30 = true then (if x36_1 < (t425.length : Int) then (impl_SplitPlaces.j1 k1 t425 t431 x9_1 x10_1 x36_1 (y434.length : Int) x36_1 ((rd t425 x36_1) == 0)) else (none)) else (impl_SplitPlaces.j1 k1 t425 t431 x9_1 x10_1 x36_1 (y434.length : Int) x36_1 true)) = some (r1, r2) := by rw [← hbq30] at H; exact H
           have Nbq30 := Aside0.mk hbq30
           clear hbq30
           by_cases c31 : bq30 = true
           ·subst c31
            have H1 : (if x36_1 < (t425.length : Int) then (impl_SplitPlaces.j1 k1 t425 t431 x9_1 x10_1 x36_1 (y434.length : Int) x36_1 ((rd t425 x36_1) == 0)) else (none)) = some (r1, r2) := by rw [if_pos rfl] at H; exact H
            clear H
            have H := H1
            clear H1
            by_cases c32 : x36_1 < (t425.length : Int)
            ·rw [if_pos c32] at H
             have c32b0 : decide (x36_1 < (t425.length : Int)) = true := decide_eq_true c32
             clear c32
             have H' := Aside0.mk H
             clear H
             have p441 : 0 ≤ (x36_1 : Int) := of_decide_eq_true (by first | (with_reducible assumption) | assumption)
             have q441 : x36_1 < (x9_1.length : Int) := of_decide_eq_true (by first | (with_reducible assumption) | assumption)
             obtain ⟨ad441, e441, hx441_0⟩ := Kd.at_bool (Kd.R_reads' HO_9.out).2.2 x36_1 p441 q441
             (try rw [← Nbq30.out] at hx441_0)
             obtain rfl : (⟨go11, 0, none⟩ : Addr) = ad441 := (by injection e441)
             (first | simp only [add_plain] at hx441_0 | simp only [add_at] at hx441_0 | simp only [Addr.add, Nat.zero_add] at hx441_0 | skip)
             replace p441 := eq_true p441
             replace q441 := eq_true q441
             obtain ⟨Ao33, co33, eo33⟩ := Kd.R_slice HO_6.out
             subst eo33
             have p442 : 0 ≤ (x36_1 : Int) := of_decide_eq_true (by first | (with_reducible assumption) | assumption)
             have q442 : x36_1 < (t425.length : Int) := of_decide_eq_true (by first | (with_reducible assumption) | assumption)
             obtain ⟨ad442, e442, hx442_0⟩ := Kd.at_int (Kd.R_reads' HO_6.out).2.2 x36_1 p442 q442
             cases e442
             replace p442 := eq_true p442
             replace q442 := eq_true q442
             go_wp2
             go_meet
             case rel => exact ⟨_, (((rd t425 x36_1) == 0)), (by first | rfl | (simp; done) | (simp [*]; done)), H', ⟨by have := HK1.out; first | omega | exact Nat.le_refl _⟩, ⟨by (try simp only [hl9_1]); (with_reducible repeat (first | apply Kd.R_alloc | apply Kd.R_drewN | apply Kd.R_drew)); exact HO_6.out⟩, ⟨by (try simp only [hl9_1]); (with_reducible repeat (first | apply Kd.S_alloc | apply Kd.S_drewN | apply Kd.S_drew)); exact HO_8.out⟩, ⟨by (try simp only [hl9_1]); (with_reducible repeat (first | apply Kd.R_alloc | apply Kd.R_drewN | apply Kd.R_drew)); exact HO_9.out⟩, ⟨by (try simp only [hl9_1]); (with_reducible repeat (first | apply Kd.R_alloc | apply Kd.R_drewN | apply Kd.R_drew)); exact HO_10.out⟩, ⟨by (try simp only [hl9_1]); (with_reducible repeat (first | refine blk_drewN ?_ _ | refine blk_drew ?_ | refine blk_alloc ?_ _)); exact BK423.out⟩, ⟨by repeat (first | (with_reducible first | exact HB.out | apply below_alloc | apply pw_below_drewN | apply below_drew1 | refine below_set ?_ GE423.out) | exact HB.out)⟩⟩
            ·rw [if_neg c32] at H
             exact absurd H (by simp)
           ·replace c31 := Bool.eq_false_iff.mpr c31
            subst c31
            have H1 : (impl_SplitPlaces.j1 k1 t425 t431 x9_1 x10_1 x36_1 (y434.length : Int) x36_1 true) = some (r1, r2) := by rw [if_neg (show ¬ (false = true) by decide)] at H; exact H
            clear H
            have H := H1
            clear H1
            have H' := Aside0.mk H
            clear H
            have p441 : 0 ≤ (x36_1 : Int) := of_decide_eq_true (by first | (with_reducible assumption) | assumption)
            have q441 : x36_1 < (x9_1.length : Int) := of_decide_eq_true (by first | (with_reducible assumption) | assumption)
            obtain ⟨ad441, e441, hx441_0⟩ := Kd.at_bool (Kd.R_reads' HO_9.out).2.2 x36_1 p441 q441
            (try rw [← Nbq30.out] at hx441_0)
            obtain rfl : (⟨go11, 0, none⟩ : Addr) = ad441 := (by injection e441)
            (first | simp only [add_plain] at hx441_0 | simp only [add_at] at hx441_0 | simp only [Addr.add, Nat.zero_add] at hx441_0 | skip)
            replace p441 := eq_true p441
            replace q441 := eq_true q441
            go_wp2
            go_meet
            case rel => exact ⟨_, (true), (by first | rfl | (simp; done) | (simp [*]; done)), H', ⟨by have := HK1.out; first | omega | exact Nat.le_refl _⟩, ⟨by (try simp only [hl9_1]); (with_reducible repeat (first | apply Kd.R_alloc | apply Kd.R_drewN | apply Kd.R_drew)); exact HO_6.out⟩, ⟨by (try simp only [hl9_1]); (with_reducible repeat (first | apply Kd.S_alloc | apply Kd.S_drewN | apply Kd.S_drew)); exact HO_8.out⟩, ⟨by (try simp only [hl9_1]); (with_reducible repeat (first | apply Kd.R_alloc | apply Kd.R_drewN | apply Kd.R_drew)); exact HO_9.out⟩, ⟨by (try simp only [hl9_1]); (with_reducible repeat (first | apply Kd.R_alloc | apply Kd.R_drewN | apply Kd.R_drew)); exact HO_10.out⟩, ⟨by (try simp only [hl9_1]); (with_reducible repeat (first | refine blk_drewN ?_ _ | refine blk_drew ?_ | refine blk_alloc ?_ _)); exact BK423.out⟩, ⟨by repeat (first | (with_reducible first | exact HB.out | apply below_alloc | apply pw_below_drewN | apply below_drew1 | refine below_set ?_ GE423.out) | exact HB.out)⟩⟩
          ·rw [if_neg c29] at H
           exact absurd H (by simp)
         ·rw [if_neg c28] at H
          exact absurd H (by simp)
        case rest =>
         clear HC27
         try clear p1
         try clear q1
         try clear hx1
         try clear qi1
         try clear c2
         try clear p2
         try clear c3
         try clear q3
         try clear p4
         try clear q4
         try clear hx4
         try clear p11
         try clear q11
         try clear hx11
         try clear qi11
         try clear hf11
         try clear c26
         try clear c26b0
         try clear c28
         try clear c28b0
         try clear c29
         try clear c29b0
         try clear q30
         try clear c31
         try clear c32
         try clear c32b0
         try clear hx11_0
         try clear hx441_0
         try clear hx442_0
         try clear p1
         try clear p11
         try clear p2
         try clear p441
         try clear p442
         try clear q1
         try clear q11
         try clear q441
         try clear q442
         obtain ⟨kq, x50_26, rfl, HA, HJ26, HO_6, HO_8, HO_9, HO_10, BK423, HB⟩ := hcut
         cases kq with
         | zero => exact absurd HA.out (by simp [impl_SplitPlaces.j1])
         | succ kj26 =>
          have H := HA.out
          clear HA
          simp only [impl_SplitPlaces.j1] at H
          by_cases c34 : x50_26 = true
          ·subst c34
           have H1 : (impl_SplitPlaces.l0 kj26 t425 t431 x9_1 x10_1 (y434.length : Int) (wrap64 (x36_1 + 1))) = some (r1, r2) := by rw [if_pos rfl] at H; exact H
           clear H
           have H := H1
           clear H1
           have H' := Aside0.mk H
           clear H
           go_wp2
           (try simp only [← hl9_1])
           go_roundg kj26
           case measure => have := HK1.out; have := HJ26.out; omega
           case rel => exact ⟨(x9_1), (x10_1), (wrap64 (x36_1 + 1)), (by first | rfl | (simp; done) | (simp [*]; done)), H', ⟨by have := HK1.out; have := HJ26.out; omega⟩, ⟨by (try simp only [hl9_1]); (with_reducible repeat (first | apply Kd.R_alloc | apply Kd.R_drewN | apply Kd.R_drew)); exact HO_6.out⟩, ⟨by (try simp only [hl9_1]); (with_reducible repeat (first | apply Kd.S_alloc | apply Kd.S_drewN | apply Kd.S_drew)); exact HO_8.out⟩, ⟨by (try simp only [hl9_1]); (with_reducible repeat (first | apply Kd.R_alloc | apply Kd.R_drewN | apply Kd.R_drew)); exact HO_9.out⟩, ⟨by (try simp only [hl9_1]); (with_reducible repeat (first | apply Kd.R_alloc | apply Kd.R_drewN | apply Kd.R_drew)); exact HO_10.out⟩, ⟨by (try simp only [hl9_1]); (with_reducible repeat (first | refine blk_drewN ?_ _ | refine blk_drew ?_ | refine blk_alloc ?_ _)); exact BK423.out⟩, ⟨by repeat (first | (with_reducible first | exact HB.out | apply below_alloc | apply pw_below_drewN | apply below_drew1 | refine below_set ?_ GE423.out) | exact HB.out)⟩⟩
          ·replace c34 := Bool.eq_false_iff.mpr c34
           subst c34
           have H1 : (if x10_1.length < 17592186044416 then (if 0 ≤ x36_1 then (if x36_1 < (t431.length : Int) then (impl_SplitPlaces.l1 kj26 t425 t431 x9_1 (x10_1 ++ [x36_1]) x36_1 (y434.length : Int) x36_1 (rd_L9 t431 x36_1) ((rd_L9 t431 x36_1).length : Int) 0) else (none)) else (none)) else (none)) = some (r1, r2) := by rw [if_neg (show ¬ (false = true) by decide)] at H; exact H
           clear H
           have H := H1
           clear H1
           by_cases c35 : x10_1.length < 17592186044416
           ·rw [if_pos c35] at H
            have LMc35 := Aside0.mk c35
            clear c35
            obtain ⟨y443, hy443⟩ : ∃ y_ : List Int, y_ = (x10_1 ++ [x36_1]) := ⟨_, rfl⟩
            replace H : (if 0 ≤ x36_1 then (if x36_1 < (t431.length : Int) then (impl_SplitPlaces.l1 kj26 t425 t431 x9_1 y443 x36_1 (y434.length : Int) x36_1 (rd_L9 t431 x36_1) ((rd_L9 t431 x36_1).length : Int) 0) else (none)) else (none)) = some (r1, r2) := by first | (rw [hy443]; with_reducible exact H) | (have H2_ := (Option.bind_some _ _).symm.trans H; rw [hy443]; with_reducible exact H2_) | (have H2_ := (Option.bind_some _ _).symm.trans H; with_reducible exact H2_) | with_reducible exact H | (rw [hy443]; exact H) | exact H
            have Ny443 := Aside0.mk hy443
            clear hy443
            by_cases c36 : 0 ≤ x36_1
            ·rw [if_pos c36] at H
             have c36b0 : decide (0 ≤ x36_1) = true := decide_eq_true c36
             clear c36
             by_cases c37 : x36_1 < (t431.length : Int)
             ·rw [if_pos c37] at H
              have c37b0 : decide (x36_1 < (t431.length : Int)) = true := decide_eq_true c37
              clear c37
              have H' := Aside0.mk H
              clear H
              go_wp2_with (first | ((with_reducible refine gate_builtin (b := .append) (xs := #[.tmp 51, .tmp 53]) rfl ?_); at_builtin; refine Kd.R_append (Kd.int .i64) (w0 := w) w.heap.size rfl (.tmp 51) (.tmp 53) 38 3 (.int .i64 0) 8 rfl Tryz.underlying38 info3 rfl (by decide) (by omega) u10 x10_1 x36_1 [.int .i64 x36_1] (fun k_ => some k_ ≠ (v426 : Value).ownBlock) (fun _ => False) rfl rfl ?aP (fun _ hk => hk.elim) ?aF ?aO ?aB ?aS ?aL ?_; (case aP => exact rfl); (case aB => exact (by repeat (first | (with_reducible first | exact HB.out | apply below_alloc | apply pw_below_drewN | apply below_drew1 | refine below_set ?_ GE423.out) | exact HB.out))); (case aF => exact (fun k_ hk => Kd.fresh' (Kd.R_lt (by (with_reducible repeat (first | apply Kd.R_alloc | apply Kd.R_drewN | apply Kd.R_drew)); exact HO_6.out)) k_ hk)); (case aO => exact (by (with_reducible repeat (first | apply Kd.R_alloc | apply Kd.R_drewN | apply Kd.R_drew)); exact HO_10.out)); (case aS => exact (below_size (by repeat (first | (with_reducible first | exact HB.out | apply below_alloc | apply pw_below_drewN | apply below_drew1 | refine below_set ?_ GE423.out) | exact HB.out)))); (case aL => have := LMc35.out; omega); intro v444 w38 ho hb hg hat; rw [← Ny443.out] at ho; have n0_ := Aside0.mk (Kd.R_after (ok := (fun _ => True)) (by (with_reducible repeat (first | apply Kd.R_alloc | apply Kd.R_drewN | apply Kd.R_drew)); exact Kd.R_mono HO_6.out (fun _ hk => ⟨trivial, hk⟩)) hg hat); have n1_ := Aside0.mk (Kd.S_after (ok := (fun k_ => some k_ ≠ (v426 : Value).ownBlock)) (by (with_reducible repeat (first | apply Kd.S_alloc | apply Kd.S_drewN | apply Kd.S_drew)); exact HO_8.out) hg hat); have n2_ := Aside0.mk (Kd.R_over' (by (with_reducible repeat (first | apply Kd.R_alloc | apply Kd.R_drewN | apply Kd.R_drew)); exact HO_9.out) (Kd.R_typed (by (with_reducible repeat (first | apply Kd.R_alloc | apply Kd.R_drewN | apply Kd.R_drew)); exact HO_10.out)) (by decide) hg); have n3_ := Aside0.mk (blk_grown (g := gb423) (o := .cells #[.slice A0_0 l0_0.length c0_0] 31 (0, 0)) (by (with_reducible repeat (first | refine blk_drewN ?_ _ | refine blk_drew ?_ | refine blk_alloc ?_ _)); exact BK423.out) hg (Kd.R_ne HO_10.out BK423.out (by decide))); have n4_ := Aside0.mk (hb); have n5_ := Aside0.mk (ho); clear HO_6; clear HO_8; clear HO_9; clear BK423; clear HB; clear HO_10; have HO_6 := n0_; have HO_8 := n1_; have HO_9 := n2_; have BK423 := n3_; have HB := n4_; have HO445 := n5_; clear n0_ n1_ n2_ n3_ n4_ n5_; clear ho hb hg hat; obtain ⟨Ao39, co39, eo39⟩ := Kd.S_slice HO_8.out; subst eo39; have p446 : 0 ≤ (x36_1 : Int) := of_decide_eq_true (by first | (with_reducible assumption) | assumption); have q446 : x36_1 < (t431.length : Int) := of_decide_eq_true (by first | (with_reducible assumption) | assumption); obtain ⟨ad446, A446_0, c446_0, e446, hx446_0, hl446_0, hi446_0⟩ := at_L9 (Kd.S_reads' HO_8.out).2.2 x36_1 p446 q446; cases e446; obtain ⟨ce446, hce446, hMe446, hcc446⟩ := Kd.S_get HO_8.out [] x36_1 p446 (by first | exact q446 | exact of_decide_eq_true (by first | (with_reducible assumption) | assumption) | (have e_ := (Kd.S_reads' HO_8.out).1; omega)); obtain ⟨ve446_0, rfl, ge446_0⟩ := hMe446; have hv446_0 := hcc446 0 _ rfl; rw [Nat.add_zero, show ((Kd.slice 3 (Kd.int .i64))).sz = 1 from rfl, Nat.mul_one] at hv446_0; replace hv446_0 := Option.some.inj (hv446_0.symm.trans hx446_0); rw [hv446_0] at ge446_0; have HL446_0 := Aside0.mk (show Kd.R (Kd.int .i64) 3 _ _ _ _ (rd_L9 t431 x36_1) from ge446_0); clear hv446_0 ge446_0; clear hcc446 hce446; have HR446_0 := Aside0.mk hi446_0; have HC446_0 := Aside0.mk hl446_0; clear hi446_0 hl446_0; replace p446 := eq_true p446; replace q446 := eq_true q446))
              go_loopg [60] kj26 (fun kq v60 w' => ∃ (x9_3 : List Bool) (x60_3 : Int), v60 = .int .i64 x60_3 ∧ Aside0 (impl_SplitPlaces.l1 kq t425 t431 x9_3 y443 x36_1 (y434.length : Int) x36_1 (rd_L9 t431 x36_1) ((rd_L9 t431 x36_1).length : Int) x60_3 = some (r1, r2)) ∧ Aside0 (kq ≤ kj26) ∧ Aside0 (Kd.R (Kd.int .i64) 3 w' w.heap.size (fun k_ => some k_ ≠ (v444 : Value).ownBlock) v426 t425) ∧ Aside0 (Kd.S (Kd.slice 3 (Kd.int .i64)) 38 w' w.heap.size (fun k_ => some k_ ≠ (v426 : Value).ownBlock ∧ some k_ ≠ (v444 : Value).ownBlock) (.slice (some ad446) t431.length co39) t431) ∧ Aside0 (Kd.R Kd.bool 4 w' w.heap.size (fun _ => True) (.slice (some ⟨go11, 0, none⟩) x9_1.length co11) x9_3) ∧ Aside0 (Kd.R (Kd.int .i64) 3 w' w.heap.size (fun k_ => some k_ ≠ (v426 : Value).ownBlock) v444 y443) ∧ Aside0 (w'.heap[gb423]? = some (.cells #[(.slice A0_0 l0_0.length c0_0)] 31 (0, 0))) ∧ Aside0 (Below w.heap.size w w') ∧ Aside0 (Kd.R (Kd.int .i64) 3 w' w.heap.size (fun _ => True) (.slice A446_0 (rd_L9 t431 x36_1).length c446_0) (rd_L9 t431 x36_1)))
              case atStart => exact ⟨(x9_1), (0), (by first | rfl | (simp; done) | (simp [*]; done)), H', ⟨Nat.le_refl _⟩, ⟨by (try simp only [hl9_1]); (with_reducible repeat (first | apply Kd.R_alloc | apply Kd.R_drewN | apply Kd.R_drew)); exact Kd.R_mono HO_6.out (fun _ hk => hk.2)⟩, ⟨by (try simp only [hl9_1]); (with_reducible repeat (first | apply Kd.S_alloc | apply Kd.S_drewN | apply Kd.S_drew)); exact HO_8.out⟩, ⟨by (try simp only [hl9_1]); (with_reducible repeat (first | apply Kd.R_alloc | apply Kd.R_drewN | apply Kd.R_drew)); exact HO_9.out⟩, ⟨by (try simp only [hl9_1]); (with_reducible repeat (first | apply Kd.R_alloc | apply Kd.R_drewN | apply Kd.R_drew)); exact HO445.out⟩, ⟨by (try simp only [hl9_1]); (with_reducible repeat (first | refine blk_drewN ?_ _ | refine blk_drew ?_ | refine blk_alloc ?_ _)); exact BK423.out⟩, ⟨by repeat (first | (with_reducible first | exact HB.out | apply below_alloc | apply pw_below_drewN | apply below_drew1 | refine below_set ?_ GE423.out) | exact HB.out)⟩, ⟨Kd.R_mono HL446_0.out (fun _ _ => trivial)⟩⟩
              case round =>
               clear H'
               try clear p1
               try clear q1
               try clear hx1
               try clear qi1
               try clear c2
               try clear p2
               try clear c3
               try clear q3
               try clear c4
               try clear p4
               try clear q4
               try clear hx4
               try clear p6
               try clear p11
               try clear q11
               try clear hx11
               try clear qi11
               try clear hf11
               try clear c26
               try clear c26b0
               try clear c28
               try clear c28b0
               try clear c29
               try clear c29b0
               try clear q30
               try clear c31
               try clear c32
               try clear c32b0
               try clear c34
               try clear c35
               try clear c36
               try clear c36b0
               try clear c37
               try clear c37b0
               try clear hx11_0
               try clear hx441_0
               try clear hx442_0
               try clear hx446_0
               try clear p1
               try clear p11
               try clear p2
               try clear p4
               try clear p441
               try clear p442
               try clear p446
               try clear q1
               try clear q11
               try clear q3
               try clear q30
               try clear q4
               try clear q441
               try clear q442
               try clear q446
               obtain ⟨x9_3, x60_3, rfl, HA, HK3, HO_6, HO_8, HO_9, HO_10, BK423, HB, HL446_0⟩ := hrel
               have hl9_3 := (Kd.R_reads' HO_9.out).1
               rw [hl9_3] at HO_9
               (try simp only [hl9_3])
               (try simp only [hl9_3] at BK423)
               (try simp only [hl9_3] at HO_6)
               (try simp only [hl9_3] at HO_8)
               (try simp only [hl9_3] at HO_10)
               cases gk with
               | zero => exact absurd HA.out (by simp [impl_SplitPlaces.l1])
               | succ k3 =>
                have H := HA.out
                clear HA
                simp only [impl_SplitPlaces.l1] at H
                by_cases c40 : x60_3 < ((rd_L9 t431 x36_1).length : Int)
                ·rw [if_pos c40] at H
                 have c40b0 : decide (x60_3 < ((rd_L9 t431 x36_1).length : Int)) = true := decide_eq_true c40
                 clear c40
                 by_cases c41 : 0 ≤ x60_3
                 ·rw [if_pos c41] at H
                  have c41b0 : decide (0 ≤ x60_3) = true := decide_eq_true c41
                  clear c41
                  by_cases c42 : x60_3 < ((rd_L9 t431 x36_1).length : Int)
                  ·rw [if_pos c42] at H
                   have c42b0 : decide (x60_3 < ((rd_L9 t431 x36_1).length : Int)) = true := decide_eq_true c42
                   clear c42
                   obtain ⟨ji43, hji43⟩ : ∃ j_ : Int, (wrap64 (x36_1 + (rd (rd_L9 t431 x36_1) x60_3))) = j_ := ⟨_, rfl⟩
                   replace H : (if 0 ≤ (ji43) then (if (ji43) < (x9_3.length : Int) then (impl_SplitPlaces.l1 k3 t425 t431 (x9_3.set ((ji43) : Int).toNat true) y443 x36_1 (y434.length : Int) x36_1 (rd_L9 t431 x36_1) ((rd_L9 t431 x36_1).length : Int) (wrap64 (x60_3 + 1))) else (none)) else (none)) = some (r1, r2) := by first | (rw [hji43] at H; exact H) | (simp only [hji43] at H ⊢; exact H)
                   have hji43w : (IntKind.i64.wrap (x36_1 + (rd (rd_L9 t431 x36_1) x60_3))) = ji43 := (i64_w _).trans hji43
                   by_cases c44 : 0 ≤ (ji43)
                   ·rw [if_pos c44] at H
                    have c44b0 : decide (0 ≤ (ji43)) = true := decide_eq_true c44
                    clear c44
                    by_cases c45 : (ji43) < (x9_3.length : Int)
                    ·rw [if_pos c45] at H
                     have c45b0 : decide ((ji43) < (x9_3.length : Int)) = true := decide_eq_true c45
                     clear c45
                     obtain ⟨y448, hy448⟩ : ∃ y_ : List Bool, y_ = (x9_3.set ((ji43) : Int).toNat true) := ⟨_, rfl⟩
                     replace H : (impl_SplitPlaces.l1 k3 t425 t431 y448 y443 x36_1 (y434.length : Int) x36_1 (rd_L9 t431 x36_1) ((rd_L9 t431 x36_1).length : Int) (wrap64 (x60_3 + 1))) = some (r1, r2) := by first | (rw [hy448]; with_reducible exact H) | (have H2_ := (Option.bind_some _ _).symm.trans H; rw [hy448]; with_reducible exact H2_) | (have H2_ := (Option.bind_some _ _).symm.trans H; with_reducible exact H2_) | with_reducible exact H | (rw [hy448]; exact H) | exact H
                     have Ny448 := Aside0.mk hy448
                     clear hy448
                     have H' := Aside0.mk H
                     clear H
                     have p447 : 0 ≤ (x60_3 : Int) := of_decide_eq_true (by first | (with_reducible assumption) | assumption)
                     have q447 : x60_3 < ((rd_L9 t431 x36_1).length : Int) := of_decide_eq_true (by first | (with_reducible assumption) | assumption)
                     obtain ⟨ad447, e447, hx447_0⟩ := Kd.at_int (Kd.R_reads' HL446_0.out).2.2 x60_3 p447 q447
                     cases e447
                     skip
                     replace p447 := eq_true p447
                     replace q447 := eq_true q447
                     have p46 : 0 ≤ ((ji43) : Int) := of_decide_eq_true (by first | (with_reducible assumption) | assumption)
                     have q46 : ((ji43) : Int) < ((x9_3.length : Int) : Int) := of_decide_eq_true (by first | (with_reducible assumption) | assumption)
                     obtain ⟨hx46_0, hf46_0⟩ := Kd.R_celln false HO_9.out ((ji43) : Int) p46 q46
                     (try simp only [Int.toNat_natCast] at hx46_0 hf46_0)
                     replace p46 := eq_true p46
                     replace q46 := eq_true q46
                     have HP47 := Kd.R_putg HO_9.out ((ji43) : Int) true
                     go_wp2_with (first | ((with_reducible refine gate_store (t := 4) (p := 68) rfl ?_); refine store_event (t := 4) (p := 68) (v := ?vo_w48) (w1 := (wr.setCell ⟨go11, ((ji43) : Int).toNat, none⟩ (.bool true))) ?hg ?ho ?hn ?hr ?_; (case ho => rfl); (case hg => rfl); (case hn => rfl); (case hr => first | (go_simp; done) | (go_simp; rfl)); intro w48 hw; have hg : wr.grownBy w48 (some go11) := (by rw [hw]; exact HP47.2); have hp_ : Kd.R Kd.bool 4 w48 w.heap.size (fun _ => True) (.slice (some ⟨go11, 0, none⟩) x9_3.length co11) y448 := (by rw [hw, Ny448.out]; exact HP47.1); clear HP47; have n0_ := Aside0.mk (Kd.R_over' (v := (.slice (some ⟨go11, 0, none⟩) x9_3.length co11)) (by (with_reducible repeat (first | apply Kd.R_alloc | apply Kd.R_drewN | apply Kd.R_drew)); exact HO_6.out) (Kd.R_typed HO_9.out) (by decide) hg); have n1_ := Aside0.mk (Kd.S_over' (v := (.slice (some ⟨go11, 0, none⟩) x9_3.length co11)) (by (with_reducible repeat (first | apply Kd.S_alloc | apply Kd.S_drewN | apply Kd.S_drew)); exact HO_8.out) (Kd.R_typed HO_9.out) (by decide) hg); have n2_ := Aside0.mk (hp_); have n3_ := Aside0.mk (Kd.R_over' (v := (.slice (some ⟨go11, 0, none⟩) x9_3.length co11)) (by (with_reducible repeat (first | apply Kd.R_alloc | apply Kd.R_drewN | apply Kd.R_drew)); exact HO_10.out) (Kd.R_typed HO_9.out) (by decide) hg); have n4_ := Aside0.mk (blk_grown (g := gb423) (o := .cells #[.slice A0_0 l0_0.length c0_0] 31 (0, 0)) (by (with_reducible repeat (first | refine blk_drewN ?_ _ | refine blk_drew ?_ | refine blk_alloc ?_ _)); exact BK423.out) hg (Kd.R_ne HO_9.out BK423.out (by decide))); have n5_ := Aside0.mk ((by rw [hw]; exact below_set (HB.out) GB11.out : Below w.heap.size w w48)); have nL_ := Aside0.mk (Kd.R_over' (v := (.slice (some ⟨go11, 0, none⟩) x9_3.length co11)) (by (with_reducible repeat (first | apply Kd.R_alloc | apply Kd.R_drewN | apply Kd.R_drew)); exact HL446_0.out) (Kd.R_typed HO_9.out) (by decide) hg); clear HL446_0; have HL446_0 := nL_; clear nL_; clear HO_6; clear HO_8; clear HO_9; clear HO_10; clear BK423; clear HB; have HO_6 := n0_; have HO_8 := n1_; have HO_9 := n2_; have HO_10 := n3_; have BK423 := n4_; have HB := n5_; clear n0_ n1_ n2_ n3_ n4_ n5_; clear hg hw hp_))
                     (try simp only [← hl9_3])
                     go_roundg k3
                     case measure => have := HK1.out; have := HJ26.out; have := HK3.out; omega
                     case rel => exact ⟨(y448), (wrap64 (x60_3 + 1)), (by first | rfl | (simp; done) | (simp [*]; done)), H', ⟨by have := HK1.out; have := HJ26.out; have := HK3.out; omega⟩, ⟨by (try simp only [hl9_1]); (try simp only [hl9_3]); (with_reducible repeat (first | apply Kd.R_alloc | apply Kd.R_drewN | apply Kd.R_drew)); exact HO_6.out⟩, ⟨by (try simp only [hl9_1]); (try simp only [hl9_3]); (with_reducible repeat (first | apply Kd.S_alloc | apply Kd.S_drewN | apply Kd.S_drew)); exact HO_8.out⟩, ⟨by (try simp only [hl9_1]); (try simp only [hl9_3]); (with_reducible repeat (first | apply Kd.R_alloc | apply Kd.R_drewN | apply Kd.R_drew)); exact HO_9.out⟩, ⟨by (try simp only [hl9_1]); (try simp only [hl9_3]); (with_reducible repeat (first | apply Kd.R_alloc | apply Kd.R_drewN | apply Kd.R_drew)); exact HO_10.out⟩, ⟨by (try simp only [hl9_1]); (try simp only [hl9_3]); (with_reducible repeat (first | refine blk_drewN ?_ _ | refine blk_drew ?_ | refine blk_alloc ?_ _)); exact BK423.out⟩, ⟨by repeat (first | (with_reducible first | exact HB.out | apply below_alloc | apply pw_below_drewN | apply below_drew1 | refine below_set ?_ GE423.out) | exact HB.out)⟩, ⟨by (with_reducible repeat (first | apply Kd.R_alloc | apply Kd.R_drewN | apply Kd.R_drew)); exact HL446_0.out⟩⟩
                    ·rw [if_neg c45] at H
                     exact absurd H (by simp)
                   ·rw [if_neg c44] at H
                    exact absurd H (by simp)
                  ·rw [if_neg c42] at H
                   exact absurd H (by simp)
                 ·rw [if_neg c41] at H
                  exact absurd H (by simp)
                ·rw [if_neg c40] at H
                 have c40b0 : decide (x60_3 < ((rd_L9 t431 x36_1).length : Int)) = false := decide_eq_false c40
                 clear c40
                 have H' := Aside0.mk H
                 clear H
                 go_wp2
                 (try simp only [← hl9_1, ← hl9_3])
                 go_roundg k3
                 case measure => have := HK1.out; have := HJ26.out; have := HK3.out; omega
                 case rel => exact ⟨(x9_3), (y443), (wrap64 (x36_1 + 1)), (by first | rfl | (simp; done) | (simp [*]; done)), H', ⟨by have := HK1.out; have := HJ26.out; have := HK3.out; omega⟩, ⟨by (try simp only [hl9_1]); (try simp only [hl9_3]); (with_reducible repeat (first | apply Kd.R_alloc | apply Kd.R_drewN | apply Kd.R_drew)); exact HO_6.out⟩, ⟨by (try simp only [hl9_1]); (try simp only [hl9_3]); (with_reducible repeat (first | apply Kd.S_alloc | apply Kd.S_drewN | apply Kd.S_drew)); exact HO_8.out⟩, ⟨by (try simp only [hl9_1]); (try simp only [hl9_3]); (with_reducible repeat (first | apply Kd.R_alloc | apply Kd.R_drewN | apply Kd.R_drew)); exact HO_9.out⟩, ⟨by (try simp only [hl9_1]); (try simp only [hl9_3]); (with_reducible repeat (first | apply Kd.R_alloc | apply Kd.R_drewN | apply Kd.R_drew)); exact HO_10.out⟩, ⟨by (try simp only [hl9_1]); (try simp only [hl9_3]); (with_reducible repeat (first | refine blk_drewN ?_ _ | refine blk_drew ?_ | refine blk_alloc ?_ _)); exact BK423.out⟩, ⟨by repeat (first | (with_reducible first | exact HB.out | apply below_alloc | apply pw_below_drewN | apply below_drew1 | refine below_set ?_ GE423.out) | exact HB.out)⟩⟩
             ·rw [if_neg c37] at H
              exact absurd H (by simp)
            ·rw [if_neg c36] at H
             exact absurd H (by simp)
           ·rw [if_neg c35] at H
            exact absurd H (by simp)
       ·rw [if_neg c26] at H
        have c26b0 : decide (x36_1 < (y434.length : Int)) = false := decide_eq_false c26
        (try (have c26b0z := c26b0; simp only [hl9_1] at c26b0z))
        clear c26
        simp only [Option.some.injEq, Prod.mk.injEq] at H
        obtain ⟨rfl, rfl⟩ := H
        go_wp2
        go_ret2
        exact ⟨_, by first | rfl | (simp [errW_none, errW_some] <;> rfl) | (simp only [← hji7]; first | rfl | (simp [errW_none, errW_some] <;> rfl)) | (simp [*, errW_none, errW_some] <;> rfl), by (with_reducible repeat (first | apply Kd.R_alloc | apply Kd.R_drewN | apply Kd.R_drew)); exact Kd.R_mono HO_10.out (fun _ hk => trivial), by repeat (first | (with_reducible first | exact HB.out | apply below_alloc | apply pw_below_drewN | apply below_drew1 | refine below_set ?_ GE423.out) | exact HB.out)⟩
    ·rw [if_neg c10] at H
     exact absurd H (by simp)
   ·rw [if_neg c9] at H
    exact absurd H (by simp)
  ·rw [if_neg c8] at H
   exact absurd H (by simp)
 ·replace c4 := Bool.eq_false_iff.mpr c4
  subst c4
  have H1 : (some (([] : List Int), false)) = some (r1, r2) := by rw [if_neg (show ¬ (false = true) by decide)] at H; exact H
  clear H
  have H := H1
  clear H1
  simp only [Option.some.injEq, Prod.mk.injEq] at H
  obtain ⟨rfl, rfl⟩ := H
  go_enter Tryz.func16, Tryz.ntmps16
  go_wp2_with (first | ((with_reducible refine gate_dst (N := 2) rfl ?_); refine box_event ?hg (N := 2) ?hd (cs := #[.slice A0_0 l0_0.length c0_0]) (t := 31) ?hr ?_; (case hd => rfl); (case hg => rfl); (case hr => first | (go_simp; done) | (go_simp; rfl)); intro gb423 hg w49 hbox hb; have n0_ := Aside0.mk (below_step (by repeat (first | (with_reducible first | exact HB.out | apply below_alloc | apply pw_below_drewN | apply below_drew1) | exact HB.out)) hb); have n1_ := Aside0.mk (hbox); have n2_ := Aside0.mk ((by rw [hg]; exact (below_size (by repeat (first | (with_reducible first | exact HB.out | apply below_alloc | apply pw_below_drewN | apply below_drew1) | exact HB.out))) : w.heap.size ≤ gb423)); have n3_ := Aside0.mk ((by rw [hg]; exact (below_size (by repeat (first | (with_reducible first | exact HB.out | apply below_alloc | apply pw_below_drewN | apply below_drew1) | exact HB.out))) : w.heap.size ≤ gb423)); clear HB; have HB := n0_; have BK423 := n1_; have GW423 := n2_; have GE423 := n3_; clear n0_ n1_ n2_ n3_; clear hb hbox hg; have hcz50_0 : w49.cell? ⟨gb423, 0, none⟩ = some (.slice A0_0 l0_0.length c0_0) := (blk_cell BK423.out 0).trans rfl; have hfz50_0 := blk_frozen BK423.out 0) | ((with_reducible refine gate_callee (f := 30) rfl ?_); refine goesL_ (some 16) rfl rfl Tryz.func30 (by kernel_rfl) rfl #[.agg #[.slice A0_0 l0_0.length c0_0], .string a1] rfl (by (try simp only [List.map_toArray, List.map_cons, List.map_nil]); first | done | rfl | (simp only [List.length_drop, List.length_take]; rfl)) ?_; (with_reducible refine (impl_arePassage.calls k _ _ l0_0 a1 false _ ?side1 ?side2 A3.out).mono ?_); (case side1 => repeat (first | exact (Kd.C_below HR0_0.out HB.out) | (with_reducible refine Kd.C_alloc ?_ _) | (with_reducible refine Kd.C_drewN ?_ _) | (with_reducible refine Kd.C_drew ?_))); (case side2 => exact HC0_0.out); rintro e w51 ⟨rfl, hb⟩; refine ⟨_, rfl, ?_⟩; have n0_ := Aside0.mk (blk_below (g := gb423) (o := .cells #[.slice A0_0 l0_0.length c0_0] 31 (0, 0)) (by (with_reducible repeat (first | refine blk_drewN ?_ _ | refine blk_drew ?_ | refine blk_alloc ?_ _)); exact BK423.out) hb); have n1_ := Aside0.mk (below_step (by repeat (first | (with_reducible first | exact HB.out | apply below_alloc | apply pw_below_drewN | apply below_drew1 | refine below_set ?_ GE423.out) | exact HB.out)) hb); clear BK423; clear HB; have BK423 := n0_; have HB := n1_; clear n0_ n1_; (try clear hb); (try clear hb2); (try clear hk); (try clear hi)))
  go_ret2
  exact ⟨_, by first | rfl | (simp [errW_none, errW_some] <;> rfl) | (simp [*, errW_none, errW_some] <;> rfl), by first | exact Kd.R_nil _ _ _ _ _ | exact Kd.N_nil _ _ _ _ _ | exact Kd.V_nil _ _ _ _ _ | exact Kd.Q_nil _ _ _ _ _ | exact Kd.S_nil _ _ _ _ _, by repeat (first | (with_reducible first | exact HB.out | apply below_alloc | apply pw_below_drewN | apply below_drew1 | refine below_set ?_ GE423.out) | exact HB.out)⟩
end Go.Proofs.YtadpmgdmiaoniaaGreatDoor.Q
namespace Go.Proofs.YtadpmgdmiaoniaaGreatDoor.Q
open Go.RowKit Go.Proofs.YtadpmgdmiaoniaaGreatDoorW.PrintWords Go.Proofs.YtadpmgdmiaoniaaGreatDoorW.PrintLast Go.Proofs.YtadpmgdmiaoniaaGreatDoorW.PrintMore
attribute [local go_sem] run_field_23 run_field_24 run_field_30 run_field_31 isSome_setCell max2_int min2_int max_two min_two max_three min_three max_four min_four   -- for this text's walks alone
set_option linter.unusedVariables false
set_option linter.unusedSimpArgs false
def laws_eqIntS.l0 : Nat → List Int → List Int → Int → Option (Bool)
  | 0, _, _, _ => none
  | k + 1, x0, x1, x5 => if x5 < (x0.length : Int) then (if 0 ≤ x5 then (if x5 < (x1.length : Int) then (if (rd x0 x5) = (rd x1 x5) then (laws_eqIntS.l0 k x0 x1 (wrap64 (x5 + 1))) else (some false)) else (none)) else (none)) else (some true)
def laws_eqIntS.f (k : Nat) (l0 : List Int) (l1 : List Int) : Option (Bool) := if (l0.length : Int) = (l1.length : Int) then (laws_eqIntS.l0 k l0 l1 0) else (some false)
set_option maxHeartbeats 8000000 in
set_option maxRecDepth 100000 in
theorem laws_eqIntS.calls (k : Nat) (A0 : Option Addr) (c0 : Nat) (l0 : List Int) (A1 : Option Addr) (c1 : Nat) (l1 : List Int) (r : Bool) (w : World) (hr0 : Kd.C (Kd.int .i64) w A0 l0.length l0) (hc0 : l0.length ≤ c0) (hr1 : Kd.C (Kd.int .i64) w A1 l1.length l1) (hc1 : l1.length ≤ c1) (h : laws_eqIntS.f k l0 l1 = some r) :
  Calls Tryz.prog 17 #[.slice A0 l0.length c0, .slice A1 l1.length c1] w fun e w' => e = .returned (.bool r) ∧ Drawn0 w w' := by
 have HR0 := Aside0.mk hr0
 have HC0 := Aside0.mk hc0
 clear hr0 hc0
 have HR1 := Aside0.mk hr1
 have HC1 := Aside0.mk hc1
 clear hr1 hc1
 have H : (if (l0.length : Int) = (l1.length : Int) then (laws_eqIntS.l0 k l0 l1 0) else (some false)) = some r := h
 clear h
 by_cases c3 : (l0.length : Int) = (l1.length : Int)
 ·rw [if_pos c3] at H
  have c3b0 : ((l0.length : Int) == (l1.length : Int)) = true := beq_iff_eq.mpr c3
  have c3b1 : ((l0.length : Int) != (l1.length : Int)) = false := bne_eq_false_iff_eq.mpr c3
  have c3b2 : (l0.length == l1.length) = true := by first | simpa using c3 | (simp at c3 ⊢; omega)
  clear c3
  have H' := Aside0.mk H
  clear H
  go_enter Tryz.func17, Tryz.ntmps17
  go_wp2
  repeat (go_quiet (fail); try go_wp2)
  go_loopg [5] k (fun kq v5 w' => ∃ (x5_1 : Int), v5 = .int .i64 x5_1 ∧ Aside0 (laws_eqIntS.l0 kq l0 l1 x5_1 = some r) ∧ Aside0 (kq ≤ k) ∧ Drawn0 w w')
  case atStart => exact ⟨(0), (by first | rfl | (simp; done) | (simp [*]; done)), H', ⟨Nat.le_refl _⟩, by repeat (first | exact Drawn0.refl _ | apply Drawn0.step)⟩
  case round =>
   clear H'
   try clear c1
   try clear p2
   try clear c3
   try clear c3b0
   try clear c3b1
   try clear c3b2
   obtain ⟨x5_1, rfl, HA, HK1, ⟨m1, rfl⟩⟩ := hrel
   cases gk with
   | zero => exact absurd HA.out (by simp [laws_eqIntS.l0])
   | succ k1 =>
    have H := HA.out
    clear HA
    simp only [laws_eqIntS.l0] at H
    by_cases c4 : x5_1 < (l0.length : Int)
    ·rw [if_pos c4] at H
     have c4b0 : decide (x5_1 < (l0.length : Int)) = true := decide_eq_true c4
     clear c4
     by_cases c5 : 0 ≤ x5_1
     ·rw [if_pos c5] at H
      have c5b0 : decide (0 ≤ x5_1) = true := decide_eq_true c5
      clear c5
      by_cases c6 : x5_1 < (l1.length : Int)
      ·rw [if_pos c6] at H
       have c6b0 : decide (x5_1 < (l1.length : Int)) = true := decide_eq_true c6
       clear c6
       by_cases c7 : (rd l0 x5_1) = (rd l1 x5_1)
       ·rw [if_pos c7] at H
        have c7b0 : ((rd l0 x5_1) == (rd l1 x5_1)) = true := beq_iff_eq.mpr c7
        have c7b1 : ((rd l0 x5_1) != (rd l1 x5_1)) = false := bne_eq_false_iff_eq.mpr c7
        clear c7
        have H' := Aside0.mk H
        clear H
        have p449 : 0 ≤ (x5_1 : Int) := of_decide_eq_true (by first | (with_reducible assumption) | assumption)
        have q449 : x5_1 < (l0.length : Int) := of_decide_eq_true (by first | (with_reducible assumption) | assumption)
        obtain ⟨ad449, e449, hx449_0⟩ := Kd.at_int HR0.out x5_1 p449 q449
        cases e449
        replace p449 := eq_true p449
        replace q449 := eq_true q449
        have p450 : 0 ≤ (x5_1 : Int) := of_decide_eq_true (by first | (with_reducible assumption) | assumption)
        have q450 : x5_1 < (l1.length : Int) := of_decide_eq_true (by first | (with_reducible assumption) | assumption)
        obtain ⟨ad450, e450, hx450_0⟩ := Kd.at_int HR1.out x5_1 p450 q450
        cases e450
        replace p450 := eq_true p450
        replace q450 := eq_true q450
        go_wp2
        repeat (go_quiet (fail); try go_wp2)
        go_roundg k1
        case measure => have := HK1.out; omega
        case rel => exact ⟨(wrap64 (x5_1 + 1)), (by first | rfl | (simp; done) | (simp [*]; done)), H', ⟨by have := HK1.out; omega⟩, by repeat (first | exact Drawn0.refl _ | apply Drawn0.step)⟩
       ·rw [if_neg c7] at H
        have c7b0 : ((rd l0 x5_1) == (rd l1 x5_1)) = false := beq_eq_false_iff_ne.mpr c7
        have c7b1 : ((rd l0 x5_1) != (rd l1 x5_1)) = true := bne_iff_ne.mpr c7
        obtain rfl := Option.some.inj H
        have p449 : 0 ≤ (x5_1 : Int) := of_decide_eq_true (by first | (with_reducible assumption) | assumption)
        have q449 : x5_1 < (l0.length : Int) := of_decide_eq_true (by first | (with_reducible assumption) | assumption)
        obtain ⟨ad449, e449, hx449_0⟩ := Kd.at_int HR0.out x5_1 p449 q449
        cases e449
        replace p449 := eq_true p449
        replace q449 := eq_true q449
        have p450 : 0 ≤ (x5_1 : Int) := of_decide_eq_true (by first | (with_reducible assumption) | assumption)
        have q450 : x5_1 < (l1.length : Int) := of_decide_eq_true (by first | (with_reducible assumption) | assumption)
        obtain ⟨ad450, e450, hx450_0⟩ := Kd.at_int HR1.out x5_1 p450 q450
        cases e450
        replace p450 := eq_true p450
        replace q450 := eq_true q450
        go_wp2
        repeat (go_quiet (fail); try go_wp2)
        go_ret
        exact ⟨by first | rfl | (simp; done) | (simp [*]; done), by repeat (first | exact Drawn0.refl _ | apply Drawn0.step)⟩
      ·rw [if_neg c6] at H
       exact absurd H (by simp)
     ·rw [if_neg c5] at H
      exact absurd H (by simp)
    ·rw [if_neg c4] at H
     have c4b0 : decide (x5_1 < (l0.length : Int)) = false := decide_eq_false c4
     clear c4
     obtain rfl := Option.some.inj H
     go_wp2
     repeat (go_quiet (fail); try go_wp2)
     go_ret
     exact ⟨by first | rfl | (simp; done) | (simp [*]; done), by repeat (first | exact Drawn0.refl _ | apply Drawn0.step)⟩
 ·rw [if_neg c3] at H
  have c3b0 : ((l0.length : Int) == (l1.length : Int)) = false := beq_eq_false_iff_ne.mpr c3
  have c3b1 : ((l0.length : Int) != (l1.length : Int)) = true := bne_iff_ne.mpr c3
  have c3b2 : (l0.length == l1.length) = false := by first | simpa using c3 | (simp at c3 ⊢; omega)
  obtain rfl := Option.some.inj H
  go_enter Tryz.func17, Tryz.ntmps17
  go_wp2
  repeat (go_quiet (fail); try go_wp2)
  go_ret
  exact ⟨by first | rfl | (simp; done) | (simp [*]; done), by repeat (first | exact Drawn0.refl _ | apply Drawn0.step)⟩
def laws_markIntS.l0 : Nat → List Int → Int → Int → Option (Int × List Int)
 | 0, _, _, _ => none
 | k + 1, x0, x1, x5 => if x5 < (x0.length : Int) then (if 0 ≤ x5 then (laws_markIntS.l0 k (x0.set (x5 : Int).toNat x1) (wrap64 (x1 + 1)) (wrap64 (x5 + 1))) else (none)) else (some (x1, x0))
def laws_markIntS.f (k : Nat) (l0 : List Int) (a1 : Int) : Option (Int × List Int) := laws_markIntS.l0 k l0 a1 0
set_option maxHeartbeats 8000000 in
set_option maxRecDepth 100000 in
theorem laws_markIntS.calls (k : Nat) (P0_ : Nat → Prop) (u9000_ : Value) (l0 : List Int) (a1 : Int) (r1 : Int) (r2 : List Int) (w0 w : World) (hB : Below w0.heap.size w0 w) (ho0 : Kd.R (Kd.int .i64) 3 w w0.heap.size P0_ u9000_ l0) (h : laws_markIntS.f k l0 a1 = some (r1, r2)) :
  Calls Tryz.prog 18 #[u9000_, .int .i64 a1] w fun e w' => e = .returned (.int .i64 r1) ∧ Kd.R (Kd.int .i64) 3 w' w0.heap.size (fun k_ => (P0_ k_ ∨ w.heap.size ≤ k_)) u9000_ r2 ∧ Below w0.heap.size w0 w' ∧ Kept w w' (fun k_ => P0_ k_) := by
 have HO0 := Aside0.mk (show Kd.R (Kd.int .i64) 3 w w0.heap.size (fun k_ => (P0_ k_ ∨ w.heap.size ≤ k_)) u9000_ l0 from Kd.R_mono ho0 (fun k_ hk => (.inl hk)))
 have HK := Aside0.mk (Kept.refl w (fun k_ => P0_ k_))
 have HW0 := Aside0.mk hB.size
 have HB := Aside0.mk hB
 clear hB
 have H : (laws_markIntS.l0 k l0 a1 0) = some (r1, r2) := h
 clear h
 have H' := Aside0.mk H
 clear H
 go_enter Tryz.func18, Tryz.ntmps18
 go_wp2
 go_loopg [1, 5] k (fun kq v1 v5 w' => ∃ (x0_1 : List Int) (x1_1 : Int) (x5_1 : Int), v1 = .int .i64 x1_1 ∧ v5 = .int .i64 x5_1 ∧ Aside0 (laws_markIntS.l0 kq x0_1 x1_1 x5_1 = some (r1, r2)) ∧ Aside0 (kq ≤ k) ∧ Aside0 (Kd.R (Kd.int .i64) 3 w' w0.heap.size (fun k_ => (P0_ k_ ∨ w.heap.size ≤ k_)) u9000_ x0_1) ∧ Aside0 (Kept w w' (fun k_ => P0_ k_)) ∧ Aside0 (Below w0.heap.size w0 w'))
 case atStart => exact ⟨(l0), (a1), (0), (by first | rfl | (simp; done) | (simp [*]; done)), (by first | rfl | (simp; done) | (simp [*]; done)), H', ⟨Nat.le_refl _⟩, ⟨by (with_reducible repeat (first | apply Kd.R_alloc | apply Kd.R_drewN | apply Kd.R_drew)); exact HO0.out⟩, ⟨by repeat (first | (with_reducible first | exact HK.out | apply Kept.alloc | apply Kept.drewN | apply Kept.drew) | exact HK.out)⟩, ⟨by repeat (first | (with_reducible first | exact HB.out | apply below_alloc | apply pw_below_drewN | apply below_drew1) | exact HB.out)⟩⟩
 case round =>
  clear H'
  try clear c1
  try clear p2
  obtain ⟨x0_1, x1_1, x5_1, rfl, rfl, HA, HK1, HO_0, HK, HB⟩ := hrel
  cases gk with
  | zero => exact absurd HA.out (by simp [laws_markIntS.l0])
  | succ k1 =>
   have H := HA.out
   clear HA
   simp only [laws_markIntS.l0] at H
   by_cases c3 : x5_1 < (x0_1.length : Int)
   ·rw [if_pos c3] at H
    have c3b0 : decide (x5_1 < (x0_1.length : Int)) = true := decide_eq_true c3
    clear c3
    by_cases c4 : 0 ≤ x5_1
    ·rw [if_pos c4] at H
     have c4b0 : decide (0 ≤ x5_1) = true := decide_eq_true c4
     clear c4
     obtain ⟨y451, hy451⟩ : ∃ y_ : List Int, y_ = (x0_1.set (x5_1 : Int).toNat x1_1) := ⟨_, rfl⟩
     replace H : (laws_markIntS.l0 k1 y451 (wrap64 (x1_1 + 1)) (wrap64 (x5_1 + 1))) = some (r1, r2) := by first | (rw [hy451]; with_reducible exact H) | (have H2_ := (Option.bind_some _ _).symm.trans H; rw [hy451]; with_reducible exact H2_) | (have H2_ := (Option.bind_some _ _).symm.trans H; with_reducible exact H2_) | with_reducible exact H | (rw [hy451]; exact H) | exact H
     have Ny451 := Aside0.mk hy451
     clear hy451
     have H' := Aside0.mk H
     clear H
     obtain ⟨Ao6, co6, eo6⟩ := Kd.R_slice HO_0.out
     subst eo6
     have p5 : 0 ≤ (x5_1 : Int) := of_decide_eq_true (by first | (with_reducible assumption) | assumption)
     have q5 : (x5_1 : Int) < ((x0_1.length : Int) : Int) := of_decide_eq_true (by first | (with_reducible assumption) | assumption)
     obtain ⟨go5, co5, eo5, gb5, gl5, cl5, HG5⟩ := Kd.R_form HO_0.out (by omega)
     (first | cases eo5 | (injection eo5 with ea_ en_ ec_; (first | subst ea_ | (injection ea_ with ea_; subst ea_)); subst ec_; clear en_))
     have GB5 := Aside0.mk gb5
     have GG5 := Aside0.mk HG5
     clear gb5 gl5 HG5
     have HMgo5 := Aside0.mk (show (P0_ go5 ∨ w.heap.size ≤ go5) from (HO_0.out.1 _ rfl))
     obtain ⟨hx5_0, hf5_0⟩ := Kd.R_celln 0 HO_0.out (x5_1 : Int) p5 q5
     (try simp only [Int.toNat_natCast] at hx5_0 hf5_0)
     replace p5 := eq_true p5
     replace q5 := eq_true q5
     have HP7 := Kd.R_putg HO_0.out (x5_1 : Int) x1_1
     go_wp2_with (first | ((with_reducible refine gate_store (t := 3) (p := 15) rfl ?_); refine store_event (t := 3) (p := 15) (v := ?vo_w8) (w1 := (wr.setCell ⟨go5, (x5_1 : Int).toNat, none⟩ (.int .i64 x1_1))) ?hg ?ho ?hn ?hr ?_; (case ho => rfl); (case hg => rfl); (case hn => rfl); (case hr => first | (go_simp; done) | (go_simp; rfl)); intro w8 hw; have hg : wr.grownBy w8 (some go5) := (by rw [hw]; exact HP7.2); have hp_ : Kd.R (Kd.int .i64) 3 w8 w0.heap.size (fun k_ => (P0_ k_ ∨ w.heap.size ≤ k_)) (.slice (some ⟨go5, 0, none⟩) x0_1.length co6) y451 := (by rw [hw, Ny451.out]; exact HP7.1); clear HP7; have n0_ := Aside0.mk (hp_); have n1_ := Aside0.mk ((by rw [hw]; exact below_set (HB.out) GB5.out : Below w0.heap.size w0 w8)); have n2_ := Aside0.mk (Kept.of_grown (S := (fun k_ => P0_ k_)) hg (by repeat (first | (with_reducible first | exact HK.out | apply Kept.alloc | apply Kept.drewN | apply Kept.drew) | exact HK.out)) (fun k_ e_ => (HO_0.out.1 k_ e_))); clear HO_0; clear HB; clear HK; have HO_0 := n0_; have HB := n1_; have HK := n2_; clear n0_ n1_ n2_; clear hg hw hp_))
     go_roundg k1
     case measure => have := HK1.out; omega
     case rel => exact ⟨(y451), (wrap64 (x1_1 + 1)), (wrap64 (x5_1 + 1)), (by first | rfl | (simp; done) | (simp [*]; done)), (by first | rfl | (simp; done) | (simp [*]; done)), H', ⟨by have := HK1.out; omega⟩, ⟨by (with_reducible repeat (first | apply Kd.R_alloc | apply Kd.R_drewN | apply Kd.R_drew)); exact HO_0.out⟩, ⟨by repeat (first | (with_reducible first | exact HK.out | apply Kept.alloc | apply Kept.drewN | apply Kept.drew) | exact HK.out)⟩, ⟨by repeat (first | (with_reducible first | exact HB.out | apply below_alloc | apply pw_below_drewN | apply below_drew1) | exact HB.out)⟩⟩
    ·rw [if_neg c4] at H
     exact absurd H (by simp)
   ·rw [if_neg c3] at H
    have c3b0 : decide (x5_1 < (x0_1.length : Int)) = false := decide_eq_false c3
    clear c3
    simp only [Option.some.injEq, Prod.mk.injEq] at H
    obtain ⟨rfl, rfl⟩ := H
    obtain ⟨Ao9, co9, eo9⟩ := Kd.R_slice HO_0.out
    subst eo9
    go_wp2
    go_ret
    exact ⟨by first | rfl | (simp [errW_none, errW_some] <;> rfl) | (simp [*, errW_none, errW_some] <;> rfl), by (with_reducible repeat (first | apply Kd.R_alloc | apply Kd.R_drewN | apply Kd.R_drew)); exact HO_0.out, by repeat (first | (with_reducible first | exact HB.out | apply below_alloc | apply pw_below_drewN | apply below_drew1) | exact HB.out), by repeat (first | (with_reducible first | exact HK.out | apply Kept.alloc | apply Kept.drewN | apply Kept.drew) | exact HK.out)⟩
def laws_heldIntS.l0 : Nat → List Int → Int → Int → Option (Int)
 | 0, _, _, _ => none
 | k + 1, x0, x1, x5 => if x5 < (x0.length : Int) then (if 0 ≤ x5 then (if (rd x0 x5) = x1 then (laws_heldIntS.l0 k x0 (wrap64 (x1 + 1)) (wrap64 (x5 + 1))) else (some (-1))) else (none)) else (some x1)
def laws_heldIntS.f (k : Nat) (l0 : List Int) (a1 : Int) : Option (Int) := laws_heldIntS.l0 k l0 a1 0
set_option maxHeartbeats 8000000 in
set_option maxRecDepth 100000 in
theorem laws_heldIntS.calls (k : Nat) (A0 : Option Addr) (c0 : Nat) (l0 : List Int) (a1 : Int) (r : Int) (w : World) (hr0 : Kd.C (Kd.int .i64) w A0 l0.length l0) (hc0 : l0.length ≤ c0) (h : laws_heldIntS.f k l0 a1 = some r) :
  Calls Tryz.prog 19 #[.slice A0 l0.length c0, .int .i64 a1] w fun e w' => e = .returned (.int .i64 r) ∧ Drawn0 w w' := by
 have HR0 := Aside0.mk hr0
 have HC0 := Aside0.mk hc0
 clear hr0 hc0
 have H : (laws_heldIntS.l0 k l0 a1 0) = some r := h
 clear h
 have H' := Aside0.mk H
 clear H
 go_enter Tryz.func19, Tryz.ntmps19
 go_wp2
 go_loopg [1, 5] k (fun kq v1 v5 w' => ∃ (x1_1 : Int) (x5_1 : Int), v1 = .int .i64 x1_1 ∧ v5 = .int .i64 x5_1 ∧ Aside0 (laws_heldIntS.l0 kq l0 x1_1 x5_1 = some r) ∧ Aside0 (kq ≤ k) ∧ Drawn0 w w')
 case atStart => exact ⟨(a1), (0), (by first | rfl | (simp; done) | (simp [*]; done)), (by first | rfl | (simp; done) | (simp [*]; done)), H', ⟨Nat.le_refl _⟩, by repeat (first | exact Drawn0.refl _ | apply Drawn0.step)⟩
 case round =>
  clear H'
  try clear c1
  try clear p2
  obtain ⟨x1_1, x5_1, rfl, rfl, HA, HK1, ⟨m1, rfl⟩⟩ := hrel
  cases gk with
  | zero => exact absurd HA.out (by simp [laws_heldIntS.l0])
  | succ k1 =>
   have H := HA.out
   clear HA
   simp only [laws_heldIntS.l0] at H
   by_cases c3 : x5_1 < (l0.length : Int)
   ·rw [if_pos c3] at H
    have c3b0 : decide (x5_1 < (l0.length : Int)) = true := decide_eq_true c3
    clear c3
    by_cases c4 : 0 ≤ x5_1
    ·rw [if_pos c4] at H
     have c4b0 : decide (0 ≤ x5_1) = true := decide_eq_true c4
     clear c4
     by_cases c5 : (rd l0 x5_1) = x1_1
     ·rw [if_pos c5] at H
      have c5b0 : ((rd l0 x5_1) == x1_1) = true := beq_iff_eq.mpr c5
      have c5b1 : ((rd l0 x5_1) != x1_1) = false := bne_eq_false_iff_eq.mpr c5
      clear c5
      have H' := Aside0.mk H
      clear H
      have p452 : 0 ≤ (x5_1 : Int) := of_decide_eq_true (by first | (with_reducible assumption) | assumption)
      have q452 : x5_1 < (l0.length : Int) := of_decide_eq_true (by first | (with_reducible assumption) | assumption)
      obtain ⟨ad452, e452, hx452_0⟩ := Kd.at_int HR0.out x5_1 p452 q452
      cases e452
      replace p452 := eq_true p452
      replace q452 := eq_true q452
      go_wp2
      go_roundg k1
      case measure => have := HK1.out; omega
      case rel => exact ⟨(wrap64 (x1_1 + 1)), (wrap64 (x5_1 + 1)), (by first | rfl | (simp; done) | (simp [*]; done)), (by first | rfl | (simp; done) | (simp [*]; done)), H', ⟨by have := HK1.out; omega⟩, by repeat (first | exact Drawn0.refl _ | apply Drawn0.step)⟩
     ·rw [if_neg c5] at H
      have c5b0 : ((rd l0 x5_1) == x1_1) = false := beq_eq_false_iff_ne.mpr c5
      have c5b1 : ((rd l0 x5_1) != x1_1) = true := bne_iff_ne.mpr c5
      obtain rfl := Option.some.inj H
      have p452 : 0 ≤ (x5_1 : Int) := of_decide_eq_true (by first | (with_reducible assumption) | assumption)
      have q452 : x5_1 < (l0.length : Int) := of_decide_eq_true (by first | (with_reducible assumption) | assumption)
      obtain ⟨ad452, e452, hx452_0⟩ := Kd.at_int HR0.out x5_1 p452 q452
      cases e452
      replace p452 := eq_true p452
      replace q452 := eq_true q452
      go_wp2
      go_ret
      exact ⟨by first | rfl | (simp; done) | (simp [*]; done), by repeat (first | exact Drawn0.refl _ | apply Drawn0.step)⟩
    ·rw [if_neg c4] at H
     exact absurd H (by simp)
   ·rw [if_neg c3] at H
    have c3b0 : decide (x5_1 < (l0.length : Int)) = false := decide_eq_false c3
    clear c3
    obtain rfl := Option.some.inj H
    go_wp2
    go_ret
    exact ⟨by first | rfl | (simp; done) | (simp [*]; done), by repeat (first | exact Drawn0.refl _ | apply Drawn0.step)⟩
end Go.Proofs.YtadpmgdmiaoniaaGreatDoor.Q
namespace Go.Proofs.YtadpmgdmiaoniaaGreatDoor.Q
open Go.RowKit Go.Proofs.YtadpmgdmiaoniaaGreatDoorW.PrintWords Go.Proofs.YtadpmgdmiaoniaaGreatDoorW.PrintLast Go.Proofs.YtadpmgdmiaoniaaGreatDoorW.PrintMore
attribute [local go_sem] run_field_23 run_field_24 run_field_30 run_field_31 isSome_setCell max2_int min2_int max_two min_two max_three min_three max_four min_four   -- for this text's walks alone
set_option linter.unusedVariables false
set_option linter.unusedSimpArgs false
mutual
def laws_FnExactSplitPlaces.j0 : Nat → ByteArray → List Int → Bool → List Int → Bool → Bool → List (S75) → List (S70) → Option (Bool)
  | 0, _, _, _, _, _, _, _, _ => none
  | k + 1, x1, x6, x7, x9, x10, x47, x454000, x466000 => if x47 = true then (some false) else ((laws_toTrie.f k x454000).bind fun t471 => ((laws_eqTrie.f k x466000 t471).bind fun t474 => (if t474 = true then ((laws_markTrie.f k x466000 1).bind fun bt475 => (if bt475.1 < 0 then (laws_FnExactSplitPlaces.j1 k x1 x6 x7 x9 true x454000) else ((laws_eqIntS.f k x9 x6).bind fun t477 => (if t477 = true then (laws_FnExactSplitPlaces.j1 k x1 x6 x7 x9 (x10 != x7) x454000) else (laws_FnExactSplitPlaces.j1 k x1 x6 x7 x9 true x454000))))) else (some false))))
def laws_FnExactSplitPlaces.j1 : Nat → ByteArray → List Int → Bool → List Int → Bool → List (S75) → Option (Bool)
  | 0, _, _, _, _, _, _ => none
  | k + 1, x1, x6, x7, x9, x68, x454000 => if x68 = true then (some false) else ((laws_markIntS.f k x9 1).bind fun bt478 => ((laws_heldIntS.f k bt478.2 1).bind fun t480 => (if t480 < 0 then (some false) else (if t480 = bt478.1 then ((laws_toTrie.f k x454000).bind fun t481 => ((impl_SplitPlaces.f k t481 x1).bind fun bt484 => ((laws_eqIntS.f k bt484.1 x6).bind fun t488 => (if t488 = true then (laws_FnExactSplitPlaces.j2 k bt478.2 bt478.1 (bt484.2 != x7)) else (laws_FnExactSplitPlaces.j2 k bt478.2 bt478.1 true))))) else (some false)))))
def laws_FnExactSplitPlaces.j2 : Nat → List Int → Int → Bool → Option (Bool)
  | 0, _, _, _ => none
  | k + 1, x9, x12, x95 => if x95 = true then (some false) else ((laws_heldIntS.f k x9 1).bind fun t489 => (if t489 < 0 then (some false) else (if t489 = x12 then (some true) else (some false))))
end
def laws_FnExactSplitPlaces.f (k : Nat) (l0_0 : List (S75)) (a1 : ByteArray) : Option (Bool) := if (a1.size : Int) > 1048576 then (some true) else ((laws_szTrie.f l0_0 1048576).bind fun t454 => (if t454 < 0 then (some true) else ((laws_toTrie.f k l0_0).bind fun t455 => ((spec_SplitPlaces.f k t455 a1).bind fun bt458 => ((laws_toTrie.f k l0_0).bind fun t462 => ((impl_SplitPlaces.f k t462 a1).bind fun bt466 => ((laws_eqIntS.f k bt466.1 bt458.1).bind fun t470 => (if t470 = true then (laws_FnExactSplitPlaces.j0 k a1 bt458.1 bt458.2 bt466.1 bt466.2 (bt466.2 != bt458.2) l0_0 t462) else (laws_FnExactSplitPlaces.j0 k a1 bt458.1 bt458.2 bt466.1 bt466.2 true l0_0 t462)))))))))
set_option maxHeartbeats 8000000 in
set_option maxRecDepth 100000 in
theorem laws_FnExactSplitPlaces.calls (k : Nat) (A0_0 : Option Addr) (c0_0 : Nat) (l0_0 : List (S75)) (a1 : ByteArray) (r : Bool) (w : World) (hr0_0 : Kd.C k75 w A0_0 l0_0.length l0_0) (hc0_0 : l0_0.length ≤ c0_0) (h : laws_FnExactSplitPlaces.f k l0_0 a1 = some true) :
  Calls Tryz.prog 4 #[.agg #[.slice A0_0 l0_0.length c0_0], .string a1] w fun e w' => e = .returned (.bool true) ∧ Below w.heap.size w w' := by
 have hu24 := Tryz.underlying24
 have hu31 := Tryz.underlying31
 have HR0_0 := Aside0.mk hr0_0
 have HC0_0 := Aside0.mk hc0_0
 clear hr0_0 hc0_0
 have HB := Aside0.mk (Below.refl w.heap.size w)
 have H : (if (a1.size : Int) > 1048576 then (some true) else ((laws_szTrie.f l0_0 1048576).bind fun t454 => (if t454 < 0 then (some true) else ((laws_toTrie.f k l0_0).bind fun t455 => ((spec_SplitPlaces.f k t455 a1).bind fun bt458 => ((laws_toTrie.f k l0_0).bind fun t462 => ((impl_SplitPlaces.f k t462 a1).bind fun bt466 => ((laws_eqIntS.f k bt466.1 bt458.1).bind fun t470 => (if t470 = true then (laws_FnExactSplitPlaces.j0 k a1 bt458.1 bt458.2 bt466.1 bt466.2 (bt466.2 != bt458.2) l0_0 t462) else (laws_FnExactSplitPlaces.j0 k a1 bt458.1 bt458.2 bt466.1 bt466.2 true l0_0 t462)))))))))) = some true := h
 clear h
 by_cases c3 : (a1.size : Int) > 1048576
 ·rw [if_pos c3] at H
  have c3b0 : decide (1048576 < (a1.size : Int)) = true := decide_eq_true c3
  have c3b1 : decide (1048576 < a1.size) = true := decide_eq_true (by omega)
  clear c3
  (first | (obtain rfl := Option.some.inj H) | (have hH_ := Option.some.inj H; try simp only [hH_]))
  go_enter Tryz.func4, Tryz.ntmps4
  go_wp2_with (first | ((with_reducible refine gate_dst (N := 2) rfl ?_); refine box_event ?hg (N := 2) ?hd (cs := #[.slice A0_0 l0_0.length c0_0]) (t := 24) ?hr ?_; (case hd => rfl); (case hg => rfl); (case hr => first | (go_simp; done) | (go_simp; rfl)); intro gb453 hg w4 hbox hb; have n0_ := Aside0.mk (below_step (by repeat (first | (with_reducible first | exact HB.out | apply below_alloc | apply pw_below_drewN | apply below_drew1) | exact HB.out)) hb); have n1_ := Aside0.mk (hbox); have n2_ := Aside0.mk ((by rw [hg]; exact (below_size (by repeat (first | (with_reducible first | exact HB.out | apply below_alloc | apply pw_below_drewN | apply below_drew1) | exact HB.out))) : w.heap.size ≤ gb453)); have n3_ := Aside0.mk ((by rw [hg]; exact (below_size (by repeat (first | (with_reducible first | exact HB.out | apply below_alloc | apply pw_below_drewN | apply below_drew1) | exact HB.out))) : w.heap.size ≤ gb453)); clear HB; have HB := n0_; have BK453 := n1_; have GW453 := n2_; have GE453 := n3_; clear n0_ n1_ n2_ n3_; clear hb hbox hg))
  go_ret
  exact ⟨by first | rfl | (simp [errW_none, errW_some] <;> rfl) | (simp [*, errW_none, errW_some] <;> rfl), by repeat (first | (with_reducible first | exact HB.out | apply below_alloc | apply pw_below_drewN | apply below_drew1 | refine below_set ?_ GE453.out) | exact HB.out)⟩
 ·rw [if_neg c3] at H
  have c3b0 : decide (1048576 < (a1.size : Int)) = false := decide_eq_false c3
  have c3b1 : decide (1048576 < a1.size) = false := decide_eq_false (by omega)
  clear c3
  replace H := Option.bind_eq_some_iff.mp H
  obtain ⟨t454, A50, H⟩ := H
  replace H : (if t454 < 0 then (some true) else ((laws_toTrie.f k l0_0).bind fun t455 => ((spec_SplitPlaces.f k t455 a1).bind fun bt458 => ((laws_toTrie.f k l0_0).bind fun t462 => ((impl_SplitPlaces.f k t462 a1).bind fun bt466 => ((laws_eqIntS.f k bt466.1 bt458.1).bind fun t470 => (if t470 = true then (laws_FnExactSplitPlaces.j0 k a1 bt458.1 bt458.2 bt466.1 bt466.2 (bt466.2 != bt458.2) l0_0 t462) else (laws_FnExactSplitPlaces.j0 k a1 bt458.1 bt458.2 bt466.1 bt466.2 true l0_0 t462)))))))) = some true := H
  have A5 := Aside0.mk A50
  clear A50
  by_cases c6 : t454 < 0
  ·rw [if_pos c6] at H
   have c6b0 : decide (t454 < 0) = true := decide_eq_true c6
   clear c6
   (first | (obtain rfl := Option.some.inj H) | (have hH_ := Option.some.inj H; try simp only [hH_]))
   go_enter Tryz.func4, Tryz.ntmps4
   go_wp2_with (first | ((with_reducible refine gate_dst (N := 2) rfl ?_); refine box_event ?hg (N := 2) ?hd (cs := #[.slice A0_0 l0_0.length c0_0]) (t := 24) ?hr ?_; (case hd => rfl); (case hg => rfl); (case hr => first | (go_simp; done) | (go_simp; rfl)); intro gb453 hg w7 hbox hb; have n0_ := Aside0.mk (below_step (by repeat (first | (with_reducible first | exact HB.out | apply below_alloc | apply pw_below_drewN | apply below_drew1) | exact HB.out)) hb); have n1_ := Aside0.mk (hbox); have n2_ := Aside0.mk ((by rw [hg]; exact (below_size (by repeat (first | (with_reducible first | exact HB.out | apply below_alloc | apply pw_below_drewN | apply below_drew1) | exact HB.out))) : w.heap.size ≤ gb453)); have n3_ := Aside0.mk ((by rw [hg]; exact (below_size (by repeat (first | (with_reducible first | exact HB.out | apply below_alloc | apply pw_below_drewN | apply below_drew1) | exact HB.out))) : w.heap.size ≤ gb453)); clear HB; have HB := n0_; have BK453 := n1_; have GW453 := n2_; have GE453 := n3_; clear n0_ n1_ n2_ n3_; clear hb hbox hg; have hcz8_0 : w7.cell? ⟨gb453, 0, none⟩ = some (.slice A0_0 l0_0.length c0_0) := (blk_cell BK453.out 0).trans rfl; have hfz8_0 := blk_frozen BK453.out 0) | ((with_reducible refine gate_callee (f := 6) rfl ?_); refine goesL_ (some 21) rfl rfl Tryz.func6 (by kernel_rfl) rfl #[.agg #[.slice A0_0 l0_0.length c0_0], .int .i64 1048576] rfl (by (try simp only [List.map_toArray, List.map_cons, List.map_nil]); first | done | rfl | (simp only [List.length_drop, List.length_take]; rfl)) ?_; (with_reducible refine (laws_szTrie.calls _ _ l0_0 1048576 t454 _ ?side1 ?side2 A5.out).mono ?_); (case side1 => repeat (first | exact (Kd.C_below HR0_0.out HB.out) | (with_reducible refine Kd.C_alloc ?_ _) | (with_reducible refine Kd.C_drewN ?_ _) | (with_reducible refine Kd.C_drew ?_))); (case side2 => exact HC0_0.out); rintro e w9 ⟨rfl, hb⟩; refine ⟨_, rfl, ?_⟩; have n0_ := Aside0.mk (blk_below (g := gb453) (o := .cells #[.slice A0_0 l0_0.length c0_0] 24 (0, 0)) (by (with_reducible repeat (first | refine blk_drewN ?_ _ | refine blk_drew ?_ | refine blk_alloc ?_ _)); exact BK453.out) hb); have n1_ := Aside0.mk (below_step (by repeat (first | (with_reducible first | exact HB.out | apply below_alloc | apply pw_below_drewN | apply below_drew1 | refine below_set ?_ GE453.out) | exact HB.out)) hb); clear BK453; clear HB; have BK453 := n0_; have HB := n1_; clear n0_ n1_; (try clear hb); (try clear hb2); (try clear hk); (try clear hi)))
   go_ret
   exact ⟨by first | rfl | (simp [errW_none, errW_some] <;> rfl) | (simp [*, errW_none, errW_some] <;> rfl), by repeat (first | (with_reducible first | exact HB.out | apply below_alloc | apply pw_below_drewN | apply below_drew1 | refine below_set ?_ GE453.out) | exact HB.out)⟩
  ·rw [if_neg c6] at H
   have c6b0 : decide (t454 < 0) = false := decide_eq_false c6
   clear c6
   replace H := Option.bind_eq_some_iff.mp H
   obtain ⟨t455, A100, H⟩ := H
   replace H : ((spec_SplitPlaces.f k t455 a1).bind fun bt458 => ((laws_toTrie.f k l0_0).bind fun t462 => ((impl_SplitPlaces.f k t462 a1).bind fun bt466 => ((laws_eqIntS.f k bt466.1 bt458.1).bind fun t470 => (if t470 = true then (laws_FnExactSplitPlaces.j0 k a1 bt458.1 bt458.2 bt466.1 bt466.2 (bt466.2 != bt458.2) l0_0 t462) else (laws_FnExactSplitPlaces.j0 k a1 bt458.1 bt458.2 bt466.1 bt466.2 true l0_0 t462)))))) = some true := H
   have A10 := Aside0.mk A100
   clear A100
   replace H := Option.bind_eq_some_iff.mp H
   obtain ⟨⟨t458, t461⟩, A110, H⟩ := H
   replace H : ((laws_toTrie.f k l0_0).bind fun t462 => ((impl_SplitPlaces.f k t462 a1).bind fun bt466 => ((laws_eqIntS.f k bt466.1 t458).bind fun t470 => (if t470 = true then (laws_FnExactSplitPlaces.j0 k a1 t458 t461 bt466.1 bt466.2 (bt466.2 != t461) l0_0 t462) else (laws_FnExactSplitPlaces.j0 k a1 t458 t461 bt466.1 bt466.2 true l0_0 t462))))) = some true := H
   have A11 := Aside0.mk A110
   clear A110
   replace H := Option.bind_eq_some_iff.mp H
   obtain ⟨t462, A120, H⟩ := H
   replace H : ((impl_SplitPlaces.f k t462 a1).bind fun bt466 => ((laws_eqIntS.f k bt466.1 t458).bind fun t470 => (if t470 = true then (laws_FnExactSplitPlaces.j0 k a1 t458 t461 bt466.1 bt466.2 (bt466.2 != t461) l0_0 t462) else (laws_FnExactSplitPlaces.j0 k a1 t458 t461 bt466.1 bt466.2 true l0_0 t462)))) = some true := H
   have A12 := Aside0.mk A120
   clear A120
   replace H := Option.bind_eq_some_iff.mp H
   obtain ⟨⟨t466, t469⟩, A130, H⟩ := H
   replace H : ((laws_eqIntS.f k t466 t458).bind fun t470 => (if t470 = true then (laws_FnExactSplitPlaces.j0 k a1 t458 t461 t466 t469 (t469 != t461) l0_0 t462) else (laws_FnExactSplitPlaces.j0 k a1 t458 t461 t466 t469 true l0_0 t462))) = some true := H
   have A13 := Aside0.mk A130
   clear A130
   have HC14 := Aside0.mk H
   clear H
   go_enter Tryz.func4, Tryz.ntmps4
   go_upto_region 10 with (first | ((with_reducible refine gate_dst (N := 2) rfl ?_); refine box_event ?hg (N := 2) ?hd (cs := #[.slice A0_0 l0_0.length c0_0]) (t := 24) ?hr ?_; (case hd => rfl); (case hg => rfl); (case hr => first | (go_simp; done) | (go_simp; rfl)); intro gb453 hg w15 hbox hb; have n0_ := Aside0.mk (below_step (by repeat (first | (with_reducible first | exact HB.out | apply below_alloc | apply pw_below_drewN | apply below_drew1) | exact HB.out)) hb); have n1_ := Aside0.mk (hbox); have n2_ := Aside0.mk ((by rw [hg]; exact (below_size (by repeat (first | (with_reducible first | exact HB.out | apply below_alloc | apply pw_below_drewN | apply below_drew1) | exact HB.out))) : w.heap.size ≤ gb453)); have n3_ := Aside0.mk ((by rw [hg]; exact (below_size (by repeat (first | (with_reducible first | exact HB.out | apply below_alloc | apply pw_below_drewN | apply below_drew1) | exact HB.out))) : w.heap.size ≤ gb453)); clear HB; have HB := n0_; have BK453 := n1_; have GW453 := n2_; have GE453 := n3_; clear n0_ n1_ n2_ n3_; clear hb hbox hg; have hcz16_0 : w15.cell? ⟨gb453, 0, none⟩ = some (.slice A0_0 l0_0.length c0_0) := (blk_cell BK453.out 0).trans rfl; have hfz16_0 := blk_frozen BK453.out 0) | ((with_reducible refine gate_callee (f := 6) rfl ?_); refine goesL_ (some 21) rfl rfl Tryz.func6 (by kernel_rfl) rfl #[.agg #[.slice A0_0 l0_0.length c0_0], .int .i64 1048576] rfl (by (try simp only [List.map_toArray, List.map_cons, List.map_nil]); first | done | rfl | (simp only [List.length_drop, List.length_take]; rfl)) ?_; (with_reducible refine (laws_szTrie.calls _ _ l0_0 1048576 t454 _ ?side1 ?side2 A5.out).mono ?_); (case side1 => repeat (first | exact (Kd.C_below HR0_0.out HB.out) | (with_reducible refine Kd.C_alloc ?_ _) | (with_reducible refine Kd.C_drewN ?_ _) | (with_reducible refine Kd.C_drew ?_))); (case side2 => exact HC0_0.out); rintro e w17 ⟨rfl, hb⟩; refine ⟨_, rfl, ?_⟩; have n0_ := Aside0.mk (blk_below (g := gb453) (o := .cells #[.slice A0_0 l0_0.length c0_0] 24 (0, 0)) (by (with_reducible repeat (first | refine blk_drewN ?_ _ | refine blk_drew ?_ | refine blk_alloc ?_ _)); exact BK453.out) hb); have n1_ := Aside0.mk (below_step (by repeat (first | (with_reducible first | exact HB.out | apply below_alloc | apply pw_below_drewN | apply below_drew1 | refine below_set ?_ GE453.out) | exact HB.out)) hb); clear BK453; clear HB; have BK453 := n0_; have HB := n1_; clear n0_ n1_; (try clear hb); (try clear hb2); (try clear hk); (try clear hi); have hcz18_0 : w17.cell? ⟨gb453, 0, none⟩ = some (.slice A0_0 l0_0.length c0_0) := (blk_cell BK453.out 0).trans rfl; have hfz18_0 := blk_frozen BK453.out 0) | ((with_reducible refine gate_callee (f := 8) rfl ?_); refine goesL_ (some 26) rfl rfl Tryz.func8 (by kernel_rfl) rfl #[.agg #[.slice A0_0 l0_0.length c0_0]] rfl (by (try simp only [List.map_toArray, List.map_cons, List.map_nil]); first | done | rfl | (simp only [List.length_drop, List.length_take]; rfl)) ?_; (with_reducible refine (laws_toTrie.calls k _ _ l0_0 t455 _ ?side1 ?side2 A10.out).mono ?_); (case side1 => repeat (first | exact (Kd.C_below HR0_0.out HB.out) | (with_reducible refine Kd.C_alloc ?_ _) | (with_reducible refine Kd.C_drewN ?_ _) | (with_reducible refine Kd.C_drew ?_))); (case side2 => exact HC0_0.out); rintro e w19 ⟨v456, rfl, ho0, hb⟩; refine ⟨_, rfl, ?_⟩; have n0_ := Aside0.mk (Kd.R_lower ho0 (below_size (by repeat (first | (with_reducible first | exact HB.out | apply below_alloc | apply pw_below_drewN | apply below_drew1 | refine below_set ?_ GE453.out) | exact HB.out)))); have n1_ := Aside0.mk (blk_below (g := gb453) (o := .cells #[.slice A0_0 l0_0.length c0_0] 24 (0, 0)) (by (with_reducible repeat (first | refine blk_drewN ?_ _ | refine blk_drew ?_ | refine blk_alloc ?_ _)); exact BK453.out) hb); have n2_ := Aside0.mk (below_step (by repeat (first | (with_reducible first | exact HB.out | apply below_alloc | apply pw_below_drewN | apply below_drew1 | refine below_set ?_ GE453.out) | exact HB.out)) hb); clear BK453; clear HB; have HO457 := n0_; have BK453 := n1_; have HB := n2_; clear n0_ n1_ n2_; (try clear hb); (try clear hb2); (try clear hk); (try clear hi); (try clear ho0); obtain ⟨Ao20, co20, eo20⟩ := Kd.R_slice HO457.out; subst eo20) | ((with_reducible refine gate_callee (f := 15) rfl ?_); refine goesL_ (some 28) rfl rfl Tryz.func15 (by kernel_rfl) rfl #[.agg #[.slice Ao20 t455.length co20], .string a1] rfl (by (try simp only [List.map_toArray, List.map_cons, List.map_nil]); first | done | rfl | (simp only [List.length_drop, List.length_take]; rfl)) ?_; (with_reducible refine (spec_SplitPlaces.calls k _ _ t455 a1 t458 t461 _ ?side1 ?side2 A11.out).mono ?_); (case side1 => repeat (first | exact (Kd.R_reads' HO457.out).2.2 | (with_reducible refine Kd.C_alloc ?_ _) | (with_reducible refine Kd.C_drewN ?_ _) | (with_reducible refine Kd.C_drew ?_))); (case side2 => exact (Kd.R_reads' HO457.out).2.1); rintro e w21 ⟨v459, rfl, ho0, hb⟩; refine ⟨_, rfl, ?_⟩; have n0_ := Aside0.mk (Kd.R_below (by (with_reducible repeat (first | apply Kd.R_alloc | apply Kd.R_drewN | apply Kd.R_drew)); exact HO457.out) hb); have n1_ := Aside0.mk (Kd.R_lower ho0 (below_size (by repeat (first | (with_reducible first | exact HB.out | apply below_alloc | apply pw_below_drewN | apply below_drew1 | refine below_set ?_ GE453.out) | exact HB.out)))); have n2_ := Aside0.mk (blk_below (g := gb453) (o := .cells #[.slice A0_0 l0_0.length c0_0] 24 (0, 0)) (by (with_reducible repeat (first | refine blk_drewN ?_ _ | refine blk_drew ?_ | refine blk_alloc ?_ _)); exact BK453.out) hb); have n3_ := Aside0.mk (below_step (by repeat (first | (with_reducible first | exact HB.out | apply below_alloc | apply pw_below_drewN | apply below_drew1 | refine below_set ?_ GE453.out) | exact HB.out)) hb); clear HO457; clear BK453; clear HB; have HO457 := n0_; have HO460 := n1_; have BK453 := n2_; have HB := n3_; clear n0_ n1_ n2_ n3_; (try clear hb); (try clear hb2); (try clear hk); (try clear hi); (try clear ho0); have hcz22_0 : w21.cell? ⟨gb453, 0, none⟩ = some (.slice A0_0 l0_0.length c0_0) := (blk_cell BK453.out 0).trans rfl; have hfz22_0 := blk_frozen BK453.out 0) | ((with_reducible refine gate_callee (f := 8) rfl ?_); refine goesL_ (some 32) rfl rfl Tryz.func8 (by kernel_rfl) rfl #[.agg #[.slice A0_0 l0_0.length c0_0]] rfl (by (try simp only [List.map_toArray, List.map_cons, List.map_nil]); first | done | rfl | (simp only [List.length_drop, List.length_take]; rfl)) ?_; (with_reducible refine (laws_toTrie.calls k _ _ l0_0 t462 _ ?side1 ?side2 A12.out).mono ?_); (case side1 => repeat (first | exact (Kd.C_below HR0_0.out HB.out) | (with_reducible refine Kd.C_alloc ?_ _) | (with_reducible refine Kd.C_drewN ?_ _) | (with_reducible refine Kd.C_drew ?_))); (case side2 => exact HC0_0.out); rintro e w23 ⟨v463, rfl, ho0, hb⟩; refine ⟨_, rfl, ?_⟩; have n0_ := Aside0.mk (Kd.R_elder' (by (with_reducible repeat (first | apply Kd.R_alloc | apply Kd.R_drewN | apply Kd.R_drew)); exact HO457.out) (Kd.R_base ho0) hb); have n1_ := Aside0.mk (Kd.R_below (by (with_reducible repeat (first | apply Kd.R_alloc | apply Kd.R_drewN | apply Kd.R_drew)); exact HO460.out) hb); have n2_ := Aside0.mk (Kd.R_lower (Kd.R_new' ho0 (Kd.R_lt (by (with_reducible repeat (first | apply Kd.R_alloc | apply Kd.R_drewN | apply Kd.R_drew)); exact HO457.out))) (below_size (by repeat (first | (with_reducible first | exact HB.out | apply below_alloc | apply pw_below_drewN | apply below_drew1 | refine below_set ?_ GE453.out) | exact HB.out)))); have n3_ := Aside0.mk (blk_below (g := gb453) (o := .cells #[.slice A0_0 l0_0.length c0_0] 24 (0, 0)) (by (with_reducible repeat (first | refine blk_drewN ?_ _ | refine blk_drew ?_ | refine blk_alloc ?_ _)); exact BK453.out) hb); have n4_ := Aside0.mk (below_step (by repeat (first | (with_reducible first | exact HB.out | apply below_alloc | apply pw_below_drewN | apply below_drew1 | refine below_set ?_ GE453.out) | exact HB.out)) hb); clear HO457; clear HO460; clear BK453; clear HB; have HO457 := n0_; have HO460 := n1_; have HO464 := n2_; have BK453 := n3_; have HB := n4_; clear n0_ n1_ n2_ n3_ n4_; (try clear hb); (try clear hb2); (try clear hk); (try clear hi); (try clear ho0)) | ((with_reducible refine gate_dst (N := 8) rfl ?_); refine box_event ?hg (N := 8) ?hd (cs := #[.slice none 0 0]) (t := 31) ?hr ?_; (case hd => rfl); (case hg => rfl); (case hr => first | (go_simp; done) | (go_simp; rfl)); intro gb465 hg w24 hbox hb; have n0_ := Aside0.mk (Kd.R_below (by (with_reducible repeat (first | apply Kd.R_alloc | apply Kd.R_drewN | apply Kd.R_drew)); exact HO457.out) hb); have n1_ := Aside0.mk (Kd.R_below (by (with_reducible repeat (first | apply Kd.R_alloc | apply Kd.R_drewN | apply Kd.R_drew)); exact HO460.out) hb); have n2_ := Aside0.mk (Kd.R_below (by (with_reducible repeat (first | apply Kd.R_alloc | apply Kd.R_drewN | apply Kd.R_drew)); exact HO464.out) hb); have n3_ := Aside0.mk (blk_below (g := gb453) (o := .cells #[.slice A0_0 l0_0.length c0_0] 24 (0, 0)) (by (with_reducible repeat (first | refine blk_drewN ?_ _ | refine blk_drew ?_ | refine blk_alloc ?_ _)); exact BK453.out) hb); have n4_ := Aside0.mk (below_step (by repeat (first | (with_reducible first | exact HB.out | apply below_alloc | apply pw_below_drewN | apply below_drew1 | refine below_set ?_ GE453.out) | exact HB.out)) hb); have n5_ := Aside0.mk (hbox); have n6_ := Aside0.mk ((by rw [hg]; exact (below_size (by repeat (first | (with_reducible first | exact HB.out | apply below_alloc | apply pw_below_drewN | apply below_drew1 | refine below_set ?_ GE453.out) | exact HB.out))) : w.heap.size ≤ gb465)); have n7_ := Aside0.mk ((by rw [hg]; exact (below_size (by repeat (first | (with_reducible first | exact HB.out | apply below_alloc | apply pw_below_drewN | apply below_drew1 | refine below_set ?_ GE453.out) | exact HB.out))) : w.heap.size ≤ gb465)); have n8_ := Aside0.mk ((by rw [hg]; exact Nat.ne_of_lt (blk_lt (g := gb453) (o := .cells #[.slice A0_0 l0_0.length c0_0] 24 (0, 0)) (by (with_reducible repeat (first | refine blk_drewN ?_ _ | refine blk_drew ?_ | refine blk_alloc ?_ _)); exact BK453.out)) : gb453 ≠ gb465)); have n9_ := Aside0.mk ((by rw [hg]; exact Nat.ne_of_gt (blk_lt (g := gb453) (o := .cells #[.slice A0_0 l0_0.length c0_0] 24 (0, 0)) (by (with_reducible repeat (first | refine blk_drewN ?_ _ | refine blk_drew ?_ | refine blk_alloc ?_ _)); exact BK453.out)) : gb465 ≠ gb453)); clear HO457; clear HO460; clear HO464; clear BK453; clear HB; have HO457 := n0_; have HO460 := n1_; have HO464 := n2_; have BK453 := n3_; have HB := n4_; have BK465 := n5_; have GW465 := n6_; have GE465 := n7_; have NB453_465 := n8_; have NB465_453 := n9_; clear n0_ n1_ n2_ n3_ n4_ n5_ n6_ n7_ n8_ n9_; clear hb hbox hg; obtain ⟨Ao25, co25, eo25⟩ := Kd.R_slice HO464.out; subst eo25; have hnb26 := NB465_453.out; have hnc26 := NB453_465.out; have hcz27_0 : w24.cell? ⟨gb465, 0, none⟩ = some (.slice none 0 0) := (blk_cell BK465.out 0).trans rfl; have hfz27_0 := blk_frozen BK465.out 0) | ((with_reducible refine gate_callee (f := 16) rfl ?_); refine goesL_ (some 36) rfl rfl Tryz.func16 (by kernel_rfl) rfl #[.agg #[.slice Ao25 t462.length co25], .string a1] rfl (by (try simp only [List.map_toArray, List.map_cons, List.map_nil]); first | done | rfl | (simp only [List.length_drop, List.length_take]; rfl)) ?_; (with_reducible refine (impl_SplitPlaces.calls k _ _ t462 a1 t466 t469 _ ?side1 ?side2 A13.out).mono ?_); (case side1 => refine (Kd.R_reads' (e := 70) (base := w.heap.size) (ok := fun k_ => (True ∧ some k_ ≠ (.slice Ao20 t455.length co20 : Value).ownBlock)) (n := t462.length) (c := co25) ?_).2.2; exact (by (with_reducible repeat (first | apply Kd.R_alloc | apply Kd.R_drewN | apply Kd.R_drew)); exact (Kd.R_mono (R_same_ (Kd.R_far (p := ⟨gb465, 0, none⟩) (Kd.R_types HO464.out BK465.out (by decide)) (fun _ hk => hk.2) (.slice Ao25 t462.length co25)) rfl) (fun _ h_ => h_.1)))); (case side2 => exact (Kd.R_reads' HO464.out).2.1); rintro e w28 ⟨v467, rfl, ho0, hb⟩; refine ⟨_, rfl, ?_⟩; have n0_ := Aside0.mk (Kd.R_below (by (with_reducible repeat (first | apply Kd.R_alloc | apply Kd.R_drewN | apply Kd.R_drew)); exact (Kd.R_mono (R_same_ (Kd.R_far (p := ⟨gb465, 0, none⟩) (Kd.R_types HO457.out BK465.out (by decide)) (fun _ hk => hk.2) (.slice Ao25 t462.length co25)) rfl) (fun _ h_ => h_.1))) hb); have n1_ := Aside0.mk (Kd.R_elder' (by (with_reducible repeat (first | apply Kd.R_alloc | apply Kd.R_drewN | apply Kd.R_drew)); exact (Kd.R_mono (R_same_ (Kd.R_far (p := ⟨gb465, 0, none⟩) (Kd.R_types HO460.out BK465.out (by decide)) (fun _ hk => hk.2) (.slice Ao25 t462.length co25)) rfl) (fun _ h_ => h_.1))) (Kd.R_base ho0) hb); have n2_ := Aside0.mk (Kd.R_below (by (with_reducible repeat (first | apply Kd.R_alloc | apply Kd.R_drewN | apply Kd.R_drew)); exact (Kd.R_mono (R_same_ (Kd.R_far (p := ⟨gb465, 0, none⟩) (Kd.R_types HO464.out BK465.out (by decide)) (fun _ hk => hk.2) (.slice Ao25 t462.length co25)) rfl) (fun _ h_ => h_.1))) hb); have n3_ := Aside0.mk (Kd.R_lower (Kd.R_new' ho0 (Kd.R_lt (by (with_reducible repeat (first | apply Kd.R_alloc | apply Kd.R_drewN | apply Kd.R_drew)); exact (Kd.R_mono (R_same_ (Kd.R_far (p := ⟨gb465, 0, none⟩) (Kd.R_types HO460.out BK465.out (by decide)) (fun _ hk => hk.2) (.slice Ao25 t462.length co25)) rfl) (fun _ h_ => h_.1))))) (below_size (by repeat (first | (with_reducible first | exact HB.out | apply below_alloc | apply pw_below_drewN | apply below_drew1 | refine below_set ?_ GE453.out | refine below_set ?_ GE465.out) | exact HB.out)))); have n4_ := Aside0.mk (blk_below (g := gb453) (o := .cells #[.slice A0_0 l0_0.length c0_0] 24 (0, 0)) (by (with_reducible repeat (first | refine blk_drewN ?_ _ | refine blk_drew ?_ | refine blk_alloc ?_ _)); refine blk_far ?_ NB453_465.out _; (with_reducible repeat (first | refine blk_drewN ?_ _ | refine blk_drew ?_ | refine blk_alloc ?_ _)); exact BK453.out) hb); have n5_ := Aside0.mk (blk_below (g := gb465) (o := .cells #[.slice Ao25 t462.length co25] 31 (0, 0)) (by (with_reducible repeat (first | refine blk_drewN ?_ _ | refine blk_drew ?_ | refine blk_alloc ?_ _)); refine blk_put (cs := #[.slice none 0 0]) ?_ 0 _ rfl; (with_reducible repeat (first | refine blk_drewN ?_ _ | refine blk_drew ?_ | refine blk_alloc ?_ _)); exact BK465.out) hb); have n6_ := Aside0.mk (below_step (by repeat (first | (with_reducible first | exact HB.out | apply below_alloc | apply pw_below_drewN | apply below_drew1 | refine below_set ?_ GE453.out | refine below_set ?_ GE465.out) | exact HB.out)) hb); clear HO457; clear HO460; clear HO464; clear BK453; clear BK465; clear HB; have HO457 := n0_; have HO460 := n1_; have HO464 := n2_; have HO468 := n3_; have BK453 := n4_; have BK465 := n5_; have HB := n6_; clear n0_ n1_ n2_ n3_ n4_ n5_ n6_; (try clear hb); (try clear hb2); (try clear hk); (try clear hi); (try clear ho0)))
   (try simp only [Act.put, List.setIfInBounds_toArray, List.set_cons_zero, List.set_cons_succ])
   go_cut [47] (fun v47 wc => ∃ (kq : Nat) (x47_13 : Bool), v47 = .bool x47_13 ∧ Aside0 (laws_FnExactSplitPlaces.j0 kq a1 t458 t461 t466 t469 x47_13 l0_0 t462 = some true) ∧ Aside0 (kq ≤ k) ∧ Aside0 (Kd.R (Kd.int .i64) 3 wc w.heap.size (fun k_ => some k_ ≠ (v467 : Value).ownBlock) v459 t458) ∧ Aside0 (Kd.R (Kd.int .i64) 3 wc w.heap.size (fun k_ => some k_ ≠ (v459 : Value).ownBlock) v467 t466) ∧ Aside0 (Kd.R k70 70 wc w.heap.size (fun _ => True) (.slice Ao25 t462.length co25) t462) ∧ Aside0 (wc.heap[gb453]? = some (.cells #[(.slice A0_0 l0_0.length c0_0)] 24 (0, 0))) ∧ Aside0 (wc.heap[gb465]? = some (.cells #[(.slice Ao25 t462.length co25)] 31 (0, 0))) ∧ Aside0 (Below w.heap.size w wc))
   case first =>
    have H := HC14.out
    clear HC14
    replace H := Option.bind_eq_some_iff.mp H
    obtain ⟨t470, A290, H⟩ := H
    replace H : (if t470 = true then (laws_FnExactSplitPlaces.j0 k a1 t458 t461 t466 t469 (t469 != t461) l0_0 t462) else (laws_FnExactSplitPlaces.j0 k a1 t458 t461 t466 t469 true l0_0 t462)) = some true := H
    have A29 := Aside0.mk A290
    clear A290
    by_cases c30 : t470 = true
    ·subst c30
     have H1 : (laws_FnExactSplitPlaces.j0 k a1 t458 t461 t466 t469 (t469 != t461) l0_0 t462) = some true := by rw [if_pos rfl] at H; exact H
     clear H
     have H := H1
     clear H1
     have H' := Aside0.mk H
     clear H
     obtain ⟨Ao31, co31, eo31⟩ := Kd.R_slice HO468.out
     subst eo31
     obtain ⟨Ao32, co32, eo32⟩ := Kd.R_slice HO460.out
     subst eo32
     go_wp2_with (first | ((with_reducible refine gate_callee (f := 17) rfl ?_); refine goesL_ (some 41) rfl rfl Tryz.func17 (by kernel_rfl) rfl #[.slice Ao31 t466.length co31, .slice Ao32 t458.length co32] rfl (by (try simp only [List.map_toArray, List.map_cons, List.map_nil]); first | done | rfl | (simp only [List.length_drop, List.length_take]; rfl)) ?_; (with_reducible refine (laws_eqIntS.calls k _ _ t466 _ _ t458 true _ ?side1 ?side2 ?side3 ?side4 A29.out).mono ?_); (case side1 => repeat (first | exact (Kd.R_reads' HO468.out).2.2 | (with_reducible refine Kd.C_alloc ?_ _) | (with_reducible refine Kd.C_drewN ?_ _) | (with_reducible refine Kd.C_drew ?_))); (case side2 => exact (Kd.R_reads' HO468.out).2.1); (case side3 => repeat (first | exact (Kd.R_reads' HO460.out).2.2 | (with_reducible refine Kd.C_alloc ?_ _) | (with_reducible refine Kd.C_drewN ?_ _) | (with_reducible refine Kd.C_drew ?_))); (case side4 => exact (Kd.R_reads' HO460.out).2.1); rintro e w' ⟨rfl, ⟨nd, rfl⟩⟩; refine ⟨_, rfl, ?_⟩))
     go_meet
     case rel => exact ⟨_, ((t469 != t461)), (by first | rfl | (simp; done) | (simp [*]; done)), H', ⟨by first | omega | exact Nat.le_refl _⟩, ⟨by (with_reducible repeat (first | apply Kd.R_alloc | apply Kd.R_drewN | apply Kd.R_drew)); exact Kd.R_mono HO460.out (fun _ hk => hk.2)⟩, ⟨by (with_reducible repeat (first | apply Kd.R_alloc | apply Kd.R_drewN | apply Kd.R_drew)); exact Kd.R_mono HO468.out (fun _ hk => hk.2)⟩, ⟨by (with_reducible repeat (first | apply Kd.R_alloc | apply Kd.R_drewN | apply Kd.R_drew)); exact Kd.R_mono HO464.out (fun _ hk => trivial)⟩, ⟨by (with_reducible repeat (first | refine blk_drewN ?_ _ | refine blk_drew ?_ | refine blk_alloc ?_ _)); exact BK453.out⟩, ⟨by (with_reducible repeat (first | refine blk_drewN ?_ _ | refine blk_drew ?_ | refine blk_alloc ?_ _)); exact BK465.out⟩, ⟨by repeat (first | (with_reducible first | exact HB.out | apply below_alloc | apply pw_below_drewN | apply below_drew1 | refine below_set ?_ GE453.out | refine below_set ?_ GE465.out) | exact HB.out)⟩⟩
    ·replace c30 := Bool.eq_false_iff.mpr c30
     subst c30
     have H1 : (laws_FnExactSplitPlaces.j0 k a1 t458 t461 t466 t469 true l0_0 t462) = some true := by rw [if_neg (show ¬ (false = true) by decide)] at H; exact H
     exact absurd H1 (by cases k <;> simp [laws_FnExactSplitPlaces.j0])
   case rest =>
    clear HC14
    try clear c1
    try clear c2
    try clear p2
    try clear c3
    try clear c3b0
    try clear c3b1
    try clear c4
    try clear c6
    try clear c6b0
    try clear c8
    try clear c15
    try clear c16
    try clear c17
    try clear c26
    try clear c30
    try clear hcz16_0
    try clear hcz18_0
    try clear hcz22_0
    try clear hcz27_0
    try clear hcz8_0
    try clear hfz16_0
    try clear hfz18_0
    try clear hfz22_0
    try clear hfz27_0
    try clear hfz8_0
    obtain ⟨kq, x47_13, rfl, HA, HJ13, HO_6, HO_9, HO_466000, BK453, BK465, HB⟩ := hcut
    cases kq with
    | zero => exact absurd HA.out (by simp [laws_FnExactSplitPlaces.j0])
    | succ kj13 =>
     have H := HA.out
     clear HA
     simp only [laws_FnExactSplitPlaces.j0] at H
     by_cases c35 : x47_13 = true
     ·subst c35
      have H1 : (some false) = some true := by rw [if_pos rfl] at H; exact H
      exact absurd H1 (by simp)
     ·replace c35 := Bool.eq_false_iff.mpr c35
      subst c35
      have H1 : ((laws_toTrie.f kj13 l0_0).bind fun t471 => ((laws_eqTrie.f kj13 t462 t471).bind fun t474 => (if t474 = true then ((laws_markTrie.f kj13 t462 1).bind fun bt475 => (if bt475.1 < 0 then (laws_FnExactSplitPlaces.j1 kj13 a1 t458 t461 t466 true l0_0) else ((laws_eqIntS.f kj13 t466 t458).bind fun t477 => (if t477 = true then (laws_FnExactSplitPlaces.j1 kj13 a1 t458 t461 t466 (t469 != t461) l0_0) else (laws_FnExactSplitPlaces.j1 kj13 a1 t458 t461 t466 true l0_0))))) else (some false)))) = some true := by rw [if_neg (show ¬ (false = true) by decide)] at H; exact H
      clear H
      have H := H1
      clear H1
      replace H := Option.bind_eq_some_iff.mp H
      obtain ⟨t471, A360, H⟩ := H
      replace H : ((laws_eqTrie.f kj13 t462 t471).bind fun t474 => (if t474 = true then ((laws_markTrie.f kj13 t462 1).bind fun bt475 => (if bt475.1 < 0 then (laws_FnExactSplitPlaces.j1 kj13 a1 t458 t461 t466 true l0_0) else ((laws_eqIntS.f kj13 t466 t458).bind fun t477 => (if t477 = true then (laws_FnExactSplitPlaces.j1 kj13 a1 t458 t461 t466 (t469 != t461) l0_0) else (laws_FnExactSplitPlaces.j1 kj13 a1 t458 t461 t466 true l0_0))))) else (some false))) = some true := H
      have A36 := Aside0.mk A360
      clear A360
      replace H := Option.bind_eq_some_iff.mp H
      obtain ⟨t474, A370, H⟩ := H
      replace H : (if t474 = true then ((laws_markTrie.f kj13 t462 1).bind fun bt475 => (if bt475.1 < 0 then (laws_FnExactSplitPlaces.j1 kj13 a1 t458 t461 t466 true l0_0) else ((laws_eqIntS.f kj13 t466 t458).bind fun t477 => (if t477 = true then (laws_FnExactSplitPlaces.j1 kj13 a1 t458 t461 t466 (t469 != t461) l0_0) else (laws_FnExactSplitPlaces.j1 kj13 a1 t458 t461 t466 true l0_0))))) else (some false)) = some true := H
      have A37 := Aside0.mk A370
      clear A370
      by_cases c38 : t474 = true
      ·subst c38
       have H1 : ((laws_markTrie.f kj13 t462 1).bind fun bt475 => (if bt475.1 < 0 then (laws_FnExactSplitPlaces.j1 kj13 a1 t458 t461 t466 true l0_0) else ((laws_eqIntS.f kj13 t466 t458).bind fun t477 => (if t477 = true then (laws_FnExactSplitPlaces.j1 kj13 a1 t458 t461 t466 (t469 != t461) l0_0) else (laws_FnExactSplitPlaces.j1 kj13 a1 t458 t461 t466 true l0_0))))) = some true := by rw [if_pos rfl] at H; exact H
       clear H
       have H := H1
       clear H1
       replace H := Option.bind_eq_some_iff.mp H
       obtain ⟨⟨t475, t476⟩, A390, H⟩ := H
       replace H : (if t475 < 0 then (laws_FnExactSplitPlaces.j1 kj13 a1 t458 t461 t466 true l0_0) else ((laws_eqIntS.f kj13 t466 t458).bind fun t477 => (if t477 = true then (laws_FnExactSplitPlaces.j1 kj13 a1 t458 t461 t466 (t469 != t461) l0_0) else (laws_FnExactSplitPlaces.j1 kj13 a1 t458 t461 t466 true l0_0)))) = some true := H
       have A39 := Aside0.mk A390
       clear A390
       have HC40 := Aside0.mk H
       clear H
       try go_wp2
       have n0_ := Aside0.mk (Kd.R_drew HO_6.out)
       have n1_ := Aside0.mk (Kd.R_drew HO_9.out)
       have n2_ := Aside0.mk (Kd.R_drew HO_466000.out)
       have n3_ := Aside0.mk (blk_drew BK453.out)
       have n4_ := Aside0.mk (blk_drew BK465.out)
       have n5_ := Aside0.mk (below_drew1 HB.out)
       revert n0_ n1_ n2_ n3_ n4_ n5_
       clear HO_6 HO_9 HO_466000 BK453 BK465 HB
       intro HO_6 HO_9 HO_466000 BK453 BK465 HB
       refine start_ (n := 5) (S := fun w' => w'.cell? ⟨gb465, 0, none⟩ = some (.slice Ao25 t462.length co25) ∧ w'.cell? ⟨gb453, 0, none⟩ = some (.slice A0_0 l0_0.length c0_0)) (ds := []) #[false, false, false, false, false] (by kernel_rfl) rfl rfl ⟨(blk_cell BK465.out 0).trans rfl, (blk_cell BK453.out 0).trans rfl⟩ (fun hHeld => ?_)
       generalize wc.drew = w41 at HO_6 HO_9 HO_466000 BK453 BK465 HB hHeld ⊢
       refine take_ (i := 0) (N := some 48) (v := ?_) (a' := ?_) #[true, false, false, false, false] rfl rfl (by kernel_rfl) (fun _ _ _ h => h) (Or.inl ⟨by rfl, ?_⟩) hHeld ?_ ?_
       rotate_left
       ·rintro w' ⟨s0, s1⟩
        go_simp
        with_reducible rfl
       rotate_left
       ·simp only [Act.put, List.setIfInBounds_toArray, List.set_cons_zero, List.set_cons_succ, i64_w, i32_w]
        rfl
       refine take_ (i := 1) (N := some 49) (v := ?_) (a' := ?_) #[true, true, false, false, false] rfl rfl (by kernel_rfl) (fun _ _ _ h => h) (Or.inl ⟨by rfl, ?_⟩) hHeld ?_ ?_
       rotate_left
       ·rintro w' ⟨s0, s1⟩
        go_simp
        with_reducible rfl
       rotate_left
       ·simp only [Act.put, List.setIfInBounds_toArray, List.set_cons_zero, List.set_cons_succ, i64_w, i32_w]
        rfl
       refine one_ (i := 2) (N := some 50) #[true, true, true, false, false] rfl rfl (by kernel_rfl) (by decide) (fun K hK => ?_)
       refine goes_ Tryz.func8 (by kernel_rfl) rfl #[.agg #[.slice A0_0 l0_0.length c0_0]] (by rfl) rfl rfl (by (try simp only [List.map_toArray, List.map_cons, List.map_nil]); first | done | rfl | (simp only [List.length_drop, List.length_take]; rfl)) ?_
       with_reducible refine (laws_toTrie.calls kj13 _ _ l0_0 t471 _ ?side1 ?side2 A36.out).mono ?_
       (case side1 => exact (Kd.C_below HR0_0.out HB.out))
       (case side2 => exact HC0_0.out)
       rintro e w42 ⟨v472, rfl, ho0, hb⟩
       refine ⟨_, rfl, ?_⟩
       have n0_ := Aside0.mk (Kd.R_below HO_6.out hb)
       have n1_ := Aside0.mk (Kd.R_below HO_9.out hb)
       have n2_ := Aside0.mk (Kd.R_elder' HO_466000.out (Kd.R_base ho0) hb)
       have n3_ := Aside0.mk (Kd.R_lower (Kd.R_new' ho0 (Kd.R_lt HO_466000.out)) (below_size HB.out))
       have n4_ := Aside0.mk (blk_below BK453.out hb)
       have n5_ := Aside0.mk (blk_below BK465.out hb)
       have n6_ := Aside0.mk (below_step HB.out hb)
       revert n0_ n1_ n2_ n3_ n4_ n5_ n6_
       clear HO_6 HO_9 HO_466000 BK453 BK465 HB
       intro HO_6 HO_9 HO_466000 HO473 BK453 BK465 HB
       (try clear hb)
       (try clear hb2)
       (try clear hk)
       (try clear hi)
       (try clear ho0)
       obtain ⟨Ao43, co43, eo43⟩ := Kd.R_slice HO473.out
       (first | subst eo43 | (injection eo43 with f1_ f2_ f3_; have f4_ := f1_.symm; have f5_ := f3_.symm; clear f1_ f2_ f3_; subst f4_; subst f5_))
       refine hK.out _ _ ⟨(blk_cell BK465.out 0).trans rfl, (blk_cell BK453.out 0).trans rfl⟩ (fun hHeld => ?_)
       clear hK K
       refine norm_ (a' := ?_) ?_ ?_
       rotate_left
       ·show Act.put _ (some 50) _ = _
        simp only [Act.put, List.setIfInBounds_toArray, List.set_cons_zero, List.set_cons_succ, i64_w, i32_w]
        rfl
       refine one_ (i := 3) (N := some 51) #[true, true, true, true, false] rfl rfl (by kernel_rfl) (by decide) (fun K hK => ?_)
       refine goes_ Tryz.func11 (by kernel_rfl) rfl #[.agg #[.slice Ao25 t462.length co25], .agg #[.slice Ao43 t471.length co43]] (by rfl) rfl rfl (by (try simp only [List.map_toArray, List.map_cons, List.map_nil]); first | done | rfl | (simp only [List.length_drop, List.length_take]; rfl)) ?_
       with_reducible refine (laws_eqTrie.calls kj13 _ _ t462 _ _ t471 true _ ?side1 ?side2 ?side3 ?side4 A37.out).mono ?_
       (case side1 => exact (Kd.R_reads' HO_466000.out).2.2)
       (case side2 => exact (Kd.R_reads' HO_466000.out).2.1)
       (case side3 => exact (Kd.R_reads' HO473.out).2.2)
       (case side4 => exact (Kd.R_reads' HO473.out).2.1)
       rintro e w44 ⟨rfl, hb⟩
       refine ⟨_, rfl, ?_⟩
       have n0_ := Aside0.mk (Kd.R_below HO_6.out hb)
       have n1_ := Aside0.mk (Kd.R_below HO_9.out hb)
       have n2_ := Aside0.mk (Kd.R_below HO_466000.out hb)
       have n3_ := Aside0.mk (Kd.R_below HO473.out hb)
       have n4_ := Aside0.mk (blk_below BK453.out hb)
       have n5_ := Aside0.mk (blk_below BK465.out hb)
       have n6_ := Aside0.mk (below_step HB.out hb)
       revert n0_ n1_ n2_ n3_ n4_ n5_ n6_
       clear HO_6 HO_9 HO_466000 HO473 BK453 BK465 HB
       intro HO_6 HO_9 HO_466000 HO473 BK453 BK465 HB
       (try clear hb)
       (try clear hb2)
       (try clear hk)
       (try clear hi)
       refine hK.out _ _ ⟨(blk_cell BK465.out 0).trans rfl, (blk_cell BK453.out 0).trans rfl⟩ (fun hHeld => ?_)
       clear hK K
       refine norm_ (a' := ?_) ?_ ?_
       rotate_left
       ·show Act.put _ (some 51) _ = _
        simp only [Act.put, List.setIfInBounds_toArray, List.set_cons_zero, List.set_cons_succ, i64_w, i32_w]
        rfl
       refine pure_ (i := 4) (N := some 52) (v := ?_) (a' := ?_) #[true, true, true, true, true] rfl rfl (by kernel_rfl) (fun _ _ _ h => h) (Or.inl ⟨by rfl, ?_⟩) ?_ ?_
       rotate_left
       ·intro w'
        go_simp
        with_reducible rfl
       rotate_left
       ·simp only [Act.put, List.setIfInBounds_toArray, List.set_cons_zero, List.set_cons_succ, i64_w, i32_w]
        rfl
       refine done_ (by kernel_rfl) ?_
       have hnb45 := NB465_453.out
       have hnc45 := NB453_465.out
       have hcz46_0 : w44.cell? ⟨gb465, 0, none⟩ = some (.slice Ao25 t462.length co25) := (blk_cell BK465.out 0).trans rfl
       have hfz46_0 := blk_frozen BK465.out 0
       go_upto_region 16 with (first | ((with_reducible refine gate_callee (f := 12) rfl ?_); refine goesL_ (some 55) rfl rfl Tryz.func12 (by kernel_rfl) rfl #[.agg #[.slice Ao25 t462.length co25], .int .i64 1] rfl (by (try simp only [List.map_toArray, List.map_cons, List.map_nil]); first | done | rfl | (simp only [List.length_drop, List.length_take]; rfl)) ?_; (with_reducible refine (laws_markTrie.calls kj13 (fun k_ => some k_ = (.slice Ao25 t462.length co25 : Value).ownBlock) (.slice Ao25 t462.length co25) t462 1 t475 t476 w _ ?side1 ?side2 A39.out).mono ?_); (case side1 => repeat (first | (with_reducible first | exact HB.out | apply below_alloc | apply pw_below_drewN | apply below_drew1 | refine below_set ?_ GE453.out | refine below_set ?_ GE465.out) | exact HB.out)); (case side2 => exact Kd.R_tight rfl HO_466000.out); rintro e w47 ⟨rfl, hy0, hb, hkp⟩; refine ⟨_, rfl, ?_⟩; have n0_ := Aside0.mk (Kd.R_mono (ok' := fun k_ => some k_ ≠ (v467 : Value).ownBlock) (Kd.R_keptB ((Kd.R_apart' HO_6.out (Kd.R_typed HO_466000.out) (by decide))) hkp (fun k_ hk_ hs_ => (hk_.2) hs_)) (fun k_ hk_ => hk_.1.1)); have n1_ := Aside0.mk (Kd.R_mono (ok' := fun k_ => some k_ ≠ (v459 : Value).ownBlock) (Kd.R_keptB ((Kd.R_apart' HO_9.out (Kd.R_typed HO_466000.out) (by decide))) hkp (fun k_ hk_ hs_ => (hk_.2) hs_)) (fun k_ hk_ => hk_.1.1)); have n2_ := Aside0.mk (Kd.R_reok rfl hy0 (fun k_ e_ => HO_466000.out.1 k_ e_)); have n3_ := Aside0.mk (blk_kept (by (with_reducible repeat (first | refine blk_drewN ?_ _ | refine blk_drew ?_ | refine blk_alloc ?_ _)); exact BK453.out) hkp (fun hs_ => (fun e_ => (Kd.R_ne HO_466000.out BK453.out (by decide)) e_) hs_)); have n4_ := Aside0.mk (blk_kept (by (with_reducible repeat (first | refine blk_drewN ?_ _ | refine blk_drew ?_ | refine blk_alloc ?_ _)); exact BK465.out) hkp (fun hs_ => (fun e_ => (Kd.R_ne HO_466000.out BK465.out (by decide)) e_) hs_)); have n5_ := Aside0.mk (Kd.R_mono (ok' := fun k_ => some k_ ≠ (.slice Ao25 t462.length co25 : Value).ownBlock) (Kd.R_keptB (HO473.out) hkp (fun k_ hk_ hs_ => (hk_.2) hs_)) (fun k_ hk_ => hk_.1.2)); have n6_ := Aside0.mk (hb); clear HO_6; clear HO_9; clear HO_466000; clear BK453; clear BK465; clear HO473; clear HB; have HO_6 := n0_; have HO_9 := n1_; have HO_466000 := n2_; have BK453 := n3_; have BK465 := n4_; have HO473 := n5_; have HB := n6_; clear n0_ n1_ n2_ n3_ n4_ n5_ n6_; (try clear hb); (try clear hkp); (try clear hy0)))
       (try simp only [Act.put, List.setIfInBounds_toArray, List.set_cons_zero, List.set_cons_succ])
       go_cut [68] (fun v68 wc => ∃ (kq : Nat) (x68_39 : Bool), v68 = .bool x68_39 ∧ Aside0 (laws_FnExactSplitPlaces.j1 kq a1 t458 t461 t466 x68_39 l0_0 = some true) ∧ Aside0 (kq ≤ kj13) ∧ Aside0 (Kd.R (Kd.int .i64) 3 wc w.heap.size (fun k_ => some k_ ≠ (v467 : Value).ownBlock) v459 t458) ∧ Aside0 (Kd.R (Kd.int .i64) 3 wc w.heap.size (fun k_ => some k_ ≠ (v459 : Value).ownBlock) v467 t466) ∧ Aside0 (Kd.R k70 70 wc w.heap.size (fun _ => True) (.slice Ao25 t462.length co25) t476) ∧ Aside0 (wc.heap[gb453]? = some (.cells #[(.slice A0_0 l0_0.length c0_0)] 24 (0, 0))) ∧ Aside0 (wc.heap[gb465]? = some (.cells #[(.slice Ao25 t462.length co25)] 31 (0, 0))) ∧ Aside0 (Below w.heap.size w wc))
       case first =>
        have H := HC40.out
        clear HC40
        by_cases c48 : t475 < 0
        ·rw [if_pos c48] at H
         exact absurd H (by cases kj13 <;> simp [laws_FnExactSplitPlaces.j1])
        ·rw [if_neg c48] at H
         have c48b0 : decide (t475 < 0) = false := decide_eq_false c48
         clear c48
         (first | rw [c48b0] | (simp only [i64_w, i32_w]; rw [c48b0]) | skip)
         replace H := Option.bind_eq_some_iff.mp H
         obtain ⟨t477, A490, H⟩ := H
         replace H : (if t477 = true then (laws_FnExactSplitPlaces.j1 kj13 a1 t458 t461 t466 (t469 != t461) l0_0) else (laws_FnExactSplitPlaces.j1 kj13 a1 t458 t461 t466 true l0_0)) = some true := H
         have A49 := Aside0.mk A490
         clear A490
         by_cases c50 : t477 = true
         ·subst c50
          have H1 : (laws_FnExactSplitPlaces.j1 kj13 a1 t458 t461 t466 (t469 != t461) l0_0) = some true := by rw [if_pos rfl] at H; exact H
          clear H
          have H := H1
          clear H1
          have H' := Aside0.mk H
          clear H
          obtain ⟨Ao51, co51, eo51⟩ := Kd.R_slice HO_9.out
          subst eo51
          obtain ⟨Ao52, co52, eo52⟩ := Kd.R_slice HO_6.out
          subst eo52
          go_wp2_with (first | (go_at_call 17; (with_reducible refine (laws_eqIntS.calls kj13 _ _ t466 _ _ t458 true _ ?side1 ?side2 ?side3 ?side4 A49.out).mono ?_); (case side1 => repeat (first | exact (Kd.R_reads' HO_9.out).2.2 | (with_reducible refine Kd.C_alloc ?_ _) | (with_reducible refine Kd.C_drewN ?_ _) | (with_reducible refine Kd.C_drew ?_))); (case side2 => exact (Kd.R_reads' HO_9.out).2.1); (case side3 => repeat (first | exact (Kd.R_reads' HO_6.out).2.2 | (with_reducible refine Kd.C_alloc ?_ _) | (with_reducible refine Kd.C_drewN ?_ _) | (with_reducible refine Kd.C_drew ?_))); (case side4 => exact (Kd.R_reads' HO_6.out).2.1); rintro e w' ⟨rfl, ⟨nd, rfl⟩⟩))
          go_meet
          case rel => exact ⟨_, ((t469 != t461)), (by first | rfl | (simp; done) | (simp [*]; done)), H', ⟨by have := HJ13.out; first | omega | exact Nat.le_refl _⟩, ⟨by (with_reducible repeat (first | apply Kd.R_alloc | apply Kd.R_drewN | apply Kd.R_drew)); exact HO_6.out⟩, ⟨by (with_reducible repeat (first | apply Kd.R_alloc | apply Kd.R_drewN | apply Kd.R_drew)); exact HO_9.out⟩, ⟨by (with_reducible repeat (first | apply Kd.R_alloc | apply Kd.R_drewN | apply Kd.R_drew)); exact Kd.R_mono HO_466000.out (fun _ hk => trivial)⟩, ⟨by (with_reducible repeat (first | refine blk_drewN ?_ _ | refine blk_drew ?_ | refine blk_alloc ?_ _)); exact BK453.out⟩, ⟨by (with_reducible repeat (first | refine blk_drewN ?_ _ | refine blk_drew ?_ | refine blk_alloc ?_ _)); exact BK465.out⟩, ⟨by repeat (first | (with_reducible first | exact HB.out | apply below_alloc | apply pw_below_drewN | apply below_drew1 | refine below_set ?_ GE453.out | refine below_set ?_ GE465.out) | exact HB.out)⟩⟩
         ·replace c50 := Bool.eq_false_iff.mpr c50
          subst c50
          have H1 : (laws_FnExactSplitPlaces.j1 kj13 a1 t458 t461 t466 true l0_0) = some true := by rw [if_neg (show ¬ (false = true) by decide)] at H; exact H
          exact absurd H1 (by cases kj13 <;> simp [laws_FnExactSplitPlaces.j1])
       case rest =>
        clear HC40
        try clear c1
        try clear c2
        try clear p2
        try clear c3
        try clear c3b0
        try clear c3b1
        try clear c4
        try clear c5
        try clear c6
        try clear c6b0
        try clear c8
        try clear c11
        try clear c12
        try clear c15
        try clear c16
        try clear c17
        try clear c26
        try clear c30
        try clear c35
        try clear c38
        try clear c45
        try clear c48
        try clear c48b0
        try clear c50
        try clear hcz16_0
        try clear hcz18_0
        try clear hcz22_0
        try clear hcz27_0
        try clear hcz46_0
        try clear hcz8_0
        try clear hfz16_0
        try clear hfz18_0
        try clear hfz22_0
        try clear hfz27_0
        try clear hfz46_0
        try clear hfz8_0
        try clear p2
        obtain ⟨kq, x68_39, rfl, HA, HJ39, HO_6, HO_9, HO_466000, BK453, BK465, HB⟩ := hcut
        have hl466000_39 := (Kd.R_reads' HO_466000.out).1
        rw [hl466000_39] at HO_466000
        (try simp only [hl466000_39])
        (try simp only [hl466000_39] at BK453)
        (try simp only [hl466000_39] at BK465)
        (try simp only [hl466000_39] at HO_6)
        (try simp only [hl466000_39] at HO_9)
        cases kq with
        | zero => exact absurd HA.out (by simp [laws_FnExactSplitPlaces.j1])
        | succ kj39 =>
         have H := HA.out
         clear HA
         simp only [laws_FnExactSplitPlaces.j1] at H
         by_cases c55 : x68_39 = true
         ·subst c55
          have H1 : (some false) = some true := by rw [if_pos rfl] at H; exact H
          exact absurd H1 (by simp)
         ·replace c55 := Bool.eq_false_iff.mpr c55
          subst c55
          have H1 : ((laws_markIntS.f kj39 t466 1).bind fun bt478 => ((laws_heldIntS.f kj39 bt478.2 1).bind fun t480 => (if t480 < 0 then (some false) else (if t480 = bt478.1 then ((laws_toTrie.f kj39 l0_0).bind fun t481 => ((impl_SplitPlaces.f kj39 t481 a1).bind fun bt484 => ((laws_eqIntS.f kj39 bt484.1 t458).bind fun t488 => (if t488 = true then (laws_FnExactSplitPlaces.j2 kj39 bt478.2 bt478.1 (bt484.2 != t461)) else (laws_FnExactSplitPlaces.j2 kj39 bt478.2 bt478.1 true))))) else (some false))))) = some true := by rw [if_neg (show ¬ (false = true) by decide)] at H; exact H
          clear H
          have H := H1
          clear H1
          replace H := Option.bind_eq_some_iff.mp H
          obtain ⟨⟨t478, t479⟩, A560, H⟩ := H
          replace H : ((laws_heldIntS.f kj39 t479 1).bind fun t480 => (if t480 < 0 then (some false) else (if t480 = t478 then ((laws_toTrie.f kj39 l0_0).bind fun t481 => ((impl_SplitPlaces.f kj39 t481 a1).bind fun bt484 => ((laws_eqIntS.f kj39 bt484.1 t458).bind fun t488 => (if t488 = true then (laws_FnExactSplitPlaces.j2 kj39 t479 t478 (bt484.2 != t461)) else (laws_FnExactSplitPlaces.j2 kj39 t479 t478 true))))) else (some false)))) = some true := H
          have A56 := Aside0.mk A560
          clear A560
          replace H := Option.bind_eq_some_iff.mp H
          obtain ⟨t480, A570, H⟩ := H
          replace H : (if t480 < 0 then (some false) else (if t480 = t478 then ((laws_toTrie.f kj39 l0_0).bind fun t481 => ((impl_SplitPlaces.f kj39 t481 a1).bind fun bt484 => ((laws_eqIntS.f kj39 bt484.1 t458).bind fun t488 => (if t488 = true then (laws_FnExactSplitPlaces.j2 kj39 t479 t478 (bt484.2 != t461)) else (laws_FnExactSplitPlaces.j2 kj39 t479 t478 true))))) else (some false))) = some true := H
          have A57 := Aside0.mk A570
          clear A570
          by_cases c58 : t480 < 0
          ·rw [if_pos c58] at H
           exact absurd H (by simp)
          ·rw [if_neg c58] at H
           have c58b0 : decide (t480 < 0) = false := decide_eq_false c58
           clear c58
           by_cases c61 : t480 = t478
           ·rw [if_pos c61] at H
            have c61b0 : (t480 == t478) = true := beq_iff_eq.mpr c61
            have c61b1 : (t480 != t478) = false := bne_eq_false_iff_eq.mpr c61
            clear c61
            replace H := Option.bind_eq_some_iff.mp H
            obtain ⟨t481, A620, H⟩ := H
            replace H : ((impl_SplitPlaces.f kj39 t481 a1).bind fun bt484 => ((laws_eqIntS.f kj39 bt484.1 t458).bind fun t488 => (if t488 = true then (laws_FnExactSplitPlaces.j2 kj39 t479 t478 (bt484.2 != t461)) else (laws_FnExactSplitPlaces.j2 kj39 t479 t478 true)))) = some true := H
            have A62 := Aside0.mk A620
            clear A620
            replace H := Option.bind_eq_some_iff.mp H
            obtain ⟨⟨t484, t487⟩, A630, H⟩ := H
            replace H : ((laws_eqIntS.f kj39 t484 t458).bind fun t488 => (if t488 = true then (laws_FnExactSplitPlaces.j2 kj39 t479 t478 (t487 != t461)) else (laws_FnExactSplitPlaces.j2 kj39 t479 t478 true))) = some true := H
            have A63 := Aside0.mk A630
            clear A630
            have HC64 := Aside0.mk H
            clear H
            obtain ⟨Ao65, co65, eo65⟩ := Kd.R_slice HO_9.out
            subst eo65
            go_upto_region 27 with (first | ((with_reducible refine gate_callee (f := 18) rfl ?_); refine goesL_ (some 71) rfl rfl Tryz.func18 (by kernel_rfl) rfl #[.slice Ao65 t466.length co65, .int .i64 1] rfl (by (try simp only [List.map_toArray, List.map_cons, List.map_nil]); first | done | rfl | (simp only [List.length_drop, List.length_take]; rfl)) ?_; (with_reducible refine (laws_markIntS.calls kj39 (fun k_ => some k_ = (.slice Ao65 t466.length co65 : Value).ownBlock) (.slice Ao65 t466.length co65) t466 1 t478 t479 w _ ?side1 ?side2 A56.out).mono ?_); (case side1 => repeat (first | (with_reducible first | exact HB.out | apply below_alloc | apply pw_below_drewN | apply below_drew1 | refine below_set ?_ GE453.out | refine below_set ?_ GE465.out) | exact HB.out)); (case side2 => exact Kd.R_tight rfl HO_9.out); rintro e w66 ⟨rfl, hy0, hb, hkp⟩; refine ⟨_, rfl, ?_⟩; have n0_ := Aside0.mk (Kd.R_mono (ok' := fun k_ => some k_ ≠ (.slice Ao65 t466.length co65 : Value).ownBlock) (Kd.R_keptB (HO_6.out) hkp (fun k_ hk_ hs_ => (hk_) hs_)) (fun k_ hk_ => hk_.1)); have n1_ := Aside0.mk (Kd.R_reok rfl hy0 (fun k_ e_ => HO_9.out.1 k_ e_)); have n2_ := Aside0.mk (Kd.R_mono (ok' := fun k_ => True) (Kd.R_keptB ((Kd.R_apart' HO_466000.out (Kd.R_typed HO_9.out) (by decide))) hkp (fun k_ hk_ hs_ => (hk_.2) hs_)) (fun k_ hk_ => trivial)); have n3_ := Aside0.mk (blk_kept (by (with_reducible repeat (first | refine blk_drewN ?_ _ | refine blk_drew ?_ | refine blk_alloc ?_ _)); exact BK453.out) hkp (fun hs_ => (fun e_ => (Kd.R_ne HO_9.out BK453.out (by decide)) e_) hs_)); have n4_ := Aside0.mk (blk_kept (by (with_reducible repeat (first | refine blk_drewN ?_ _ | refine blk_drew ?_ | refine blk_alloc ?_ _)); exact BK465.out) hkp (fun hs_ => (fun e_ => (Kd.R_ne HO_9.out BK465.out (by decide)) e_) hs_)); have n5_ := Aside0.mk (hb); clear HO_6; clear HO_9; clear HO_466000; clear BK453; clear BK465; clear HB; have HO_6 := n0_; have HO_9 := n1_; have HO_466000 := n2_; have BK453 := n3_; have BK465 := n4_; have HB := n5_; clear n0_ n1_ n2_ n3_ n4_ n5_; (try clear hb); (try clear hkp); (try clear hy0)) | ((with_reducible refine gate_callee (f := 19) rfl ?_); refine goesL_ (some 74) rfl rfl Tryz.func19 (by kernel_rfl) rfl #[.slice Ao65 t479.length co65, .int .i64 1] rfl (by (try simp only [List.map_toArray, List.map_cons, List.map_nil]); first | done | (rw [show t479.length = t466.length from (Kd.R_reads' HO_9.out).1.symm] <;> rfl) | rfl | (simp only [List.length_drop, List.length_take]; rfl)) ?_; (with_reducible refine (laws_heldIntS.calls kj39 _ _ t479 1 t480 _ ?side1 ?side2 A57.out).mono ?_); (case side1 => repeat (first | exact (Kd.R_reads' HO_9.out).2.2 | (with_reducible refine Kd.C_alloc ?_ _) | (with_reducible refine Kd.C_drewN ?_ _) | (with_reducible refine Kd.C_drew ?_))); (case side2 => rw [show t479.length = t466.length from (Kd.R_reads' HO_9.out).1.symm]; exact (Kd.R_reads' HO_9.out).2.1); rintro e w' ⟨rfl, ⟨nd, rfl⟩⟩; refine ⟨_, rfl, ?_⟩; have hnb67 := NB453_465.out; have hnc67 := NB465_453.out; have hcz68_0 : w66.cell? ⟨gb453, 0, none⟩ = some (.slice A0_0 l0_0.length c0_0) := (blk_cell BK453.out 0).trans rfl; have hfz68_0 := blk_frozen BK453.out 0) | ((with_reducible refine gate_callee (f := 8) rfl ?_); refine goesL_ (some 82) rfl rfl Tryz.func8 (by kernel_rfl) rfl #[.agg #[.slice A0_0 l0_0.length c0_0]] rfl (by (try simp only [List.map_toArray, List.map_cons, List.map_nil]); first | done | rfl | (simp only [List.length_drop, List.length_take]; rfl)) ?_; (with_reducible refine (laws_toTrie.calls kj39 _ _ l0_0 t481 _ ?side1 ?side2 A62.out).mono ?_); (case side1 => repeat (first | exact (Kd.C_below HR0_0.out (by repeat (first | (with_reducible first | exact HB.out | apply below_alloc | apply pw_below_drewN | apply below_drew1 | refine below_set ?_ GE453.out | refine below_set ?_ GE465.out) | exact HB.out))) | (with_reducible refine Kd.C_alloc ?_ _) | (with_reducible refine Kd.C_drewN ?_ _) | (with_reducible refine Kd.C_drew ?_))); (case side2 => exact HC0_0.out); rintro e w69 ⟨v482, rfl, ho0, hb⟩; refine ⟨_, rfl, ?_⟩; have n0_ := Aside0.mk (Kd.R_below (by (with_reducible repeat (first | apply Kd.R_alloc | apply Kd.R_drewN | apply Kd.R_drew)); exact HO_6.out) hb); have n1_ := Aside0.mk (Kd.R_below (by (with_reducible repeat (first | apply Kd.R_alloc | apply Kd.R_drewN | apply Kd.R_drew)); exact HO_9.out) hb); have n2_ := Aside0.mk (Kd.R_elder' (by (with_reducible repeat (first | apply Kd.R_alloc | apply Kd.R_drewN | apply Kd.R_drew)); exact HO_466000.out) (Kd.R_base ho0) hb); have n3_ := Aside0.mk (Kd.R_lower (Kd.R_new' ho0 (Kd.R_lt (by (with_reducible repeat (first | apply Kd.R_alloc | apply Kd.R_drewN | apply Kd.R_drew)); exact HO_466000.out))) (below_size (by repeat (first | (with_reducible first | exact HB.out | apply below_alloc | apply pw_below_drewN | apply below_drew1 | refine below_set ?_ GE453.out | refine below_set ?_ GE465.out) | exact HB.out)))); have n4_ := Aside0.mk (blk_below (g := gb453) (o := .cells #[.slice A0_0 l0_0.length c0_0] 24 (0, 0)) (by (with_reducible repeat (first | refine blk_drewN ?_ _ | refine blk_drew ?_ | refine blk_alloc ?_ _)); exact BK453.out) hb); have n5_ := Aside0.mk (blk_below (g := gb465) (o := .cells #[.slice Ao25 t476.length co25] 31 (0, 0)) (by (with_reducible repeat (first | refine blk_drewN ?_ _ | refine blk_drew ?_ | refine blk_alloc ?_ _)); exact BK465.out) hb); have n6_ := Aside0.mk (below_step (by repeat (first | (with_reducible first | exact HB.out | apply below_alloc | apply pw_below_drewN | apply below_drew1 | refine below_set ?_ GE453.out | refine below_set ?_ GE465.out) | exact HB.out)) hb); clear HO_6; clear HO_9; clear HO_466000; clear BK453; clear BK465; clear HB; have HO_6 := n0_; have HO_9 := n1_; have HO_466000 := n2_; have HO483 := n3_; have BK453 := n4_; have BK465 := n5_; have HB := n6_; clear n0_ n1_ n2_ n3_ n4_ n5_ n6_; (try clear hb); (try clear hb2); (try clear hk); (try clear hi); (try clear ho0); obtain ⟨Ao70, co70, eo70⟩ := Kd.R_slice HO483.out; subst eo70) | ((with_reducible refine gate_callee (f := 16) rfl ?_); refine goesL_ (some 84) rfl rfl Tryz.func16 (by kernel_rfl) rfl #[.agg #[.slice Ao70 t481.length co70], .string a1] rfl (by (try simp only [List.map_toArray, List.map_cons, List.map_nil]); first | done | rfl | (simp only [List.length_drop, List.length_take]; rfl)) ?_; (with_reducible refine (impl_SplitPlaces.calls kj39 _ _ t481 a1 t484 t487 _ ?side1 ?side2 A63.out).mono ?_); (case side1 => repeat (first | exact (Kd.R_reads' HO483.out).2.2 | (with_reducible refine Kd.C_alloc ?_ _) | (with_reducible refine Kd.C_drewN ?_ _) | (with_reducible refine Kd.C_drew ?_))); (case side2 => exact (Kd.R_reads' HO483.out).2.1); rintro e w71 ⟨v485, rfl, ho0, hb⟩; refine ⟨_, rfl, ?_⟩; have n0_ := Aside0.mk (Kd.R_elder' (by (with_reducible repeat (first | apply Kd.R_alloc | apply Kd.R_drewN | apply Kd.R_drew)); exact HO_6.out) (Kd.R_base ho0) hb); have n1_ := Aside0.mk (Kd.R_elder' (by (with_reducible repeat (first | apply Kd.R_alloc | apply Kd.R_drewN | apply Kd.R_drew)); exact HO_9.out) (Kd.R_base ho0) hb); have n2_ := Aside0.mk (Kd.R_below (by (with_reducible repeat (first | apply Kd.R_alloc | apply Kd.R_drewN | apply Kd.R_drew)); exact HO_466000.out) hb); have n3_ := Aside0.mk (Kd.R_below (by (with_reducible repeat (first | apply Kd.R_alloc | apply Kd.R_drewN | apply Kd.R_drew)); exact HO483.out) hb); have n4_ := Aside0.mk (Kd.R_lower (Kd.R_new' (Kd.R_new' ho0 (Kd.R_lt (by (with_reducible repeat (first | apply Kd.R_alloc | apply Kd.R_drewN | apply Kd.R_drew)); exact HO_6.out))) (Kd.R_lt (by (with_reducible repeat (first | apply Kd.R_alloc | apply Kd.R_drewN | apply Kd.R_drew)); exact HO_9.out))) (below_size (by repeat (first | (with_reducible first | exact HB.out | apply below_alloc | apply pw_below_drewN | apply below_drew1 | refine below_set ?_ GE453.out | refine below_set ?_ GE465.out) | exact HB.out)))); have n5_ := Aside0.mk (blk_below (g := gb453) (o := .cells #[.slice A0_0 l0_0.length c0_0] 24 (0, 0)) (by (with_reducible repeat (first | refine blk_drewN ?_ _ | refine blk_drew ?_ | refine blk_alloc ?_ _)); exact BK453.out) hb); have n6_ := Aside0.mk (blk_below (g := gb465) (o := .cells #[.slice Ao25 t476.length co25] 31 (0, 0)) (by (with_reducible repeat (first | refine blk_drewN ?_ _ | refine blk_drew ?_ | refine blk_alloc ?_ _)); exact BK465.out) hb); have n7_ := Aside0.mk (below_step (by repeat (first | (with_reducible first | exact HB.out | apply below_alloc | apply pw_below_drewN | apply below_drew1 | refine below_set ?_ GE453.out | refine below_set ?_ GE465.out) | exact HB.out)) hb); clear HO_6; clear HO_9; clear HO_466000; clear HO483; clear BK453; clear BK465; clear HB; have HO_6 := n0_; have HO_9 := n1_; have HO_466000 := n2_; have HO483 := n3_; have HO486 := n4_; have BK453 := n5_; have BK465 := n6_; have HB := n7_; clear n0_ n1_ n2_ n3_ n4_ n5_ n6_ n7_; (try clear hb); (try clear hb2); (try clear hk); (try clear hi); (try clear ho0)))
            (try simp only [Act.put, List.setIfInBounds_toArray, List.set_cons_zero, List.set_cons_succ])
            go_cut [95] (fun v95 wc => ∃ (kq : Nat) (x95_63 : Bool), v95 = .bool x95_63 ∧ Aside0 (laws_FnExactSplitPlaces.j2 kq t479 t478 x95_63 = some true) ∧ Aside0 (kq ≤ kj39) ∧ Aside0 (Kd.R (Kd.int .i64) 3 wc w.heap.size (fun _ => True) (.slice Ao65 t466.length co65) t479) ∧ Aside0 (Kd.R k70 70 wc w.heap.size (fun _ => True) (.slice Ao25 t476.length co25) t476) ∧ Aside0 (wc.heap[gb453]? = some (.cells #[(.slice A0_0 l0_0.length c0_0)] 24 (0, 0))) ∧ Aside0 (wc.heap[gb465]? = some (.cells #[(.slice Ao25 t476.length co25)] 31 (0, 0))) ∧ Aside0 (Below w.heap.size w wc))
            case first =>
             have H := HC64.out
             clear HC64
             replace H := Option.bind_eq_some_iff.mp H
             obtain ⟨t488, A720, H⟩ := H
             replace H : (if t488 = true then (laws_FnExactSplitPlaces.j2 kj39 t479 t478 (t487 != t461)) else (laws_FnExactSplitPlaces.j2 kj39 t479 t478 true)) = some true := H
             have A72 := Aside0.mk A720
             clear A720
             by_cases c73 : t488 = true
             ·subst c73
              have H1 : (laws_FnExactSplitPlaces.j2 kj39 t479 t478 (t487 != t461)) = some true := by rw [if_pos rfl] at H; exact H
              clear H
              have H := H1
              clear H1
              have H' := Aside0.mk H
              clear H
              obtain ⟨Ao74, co74, eo74⟩ := Kd.R_slice HO486.out
              subst eo74
              obtain ⟨Ao75, co75, eo75⟩ := Kd.R_slice HO_6.out
              subst eo75
              go_wp2_with (first | ((with_reducible refine gate_callee (f := 17) rfl ?_); refine goesL_ (some 89) rfl rfl Tryz.func17 (by kernel_rfl) rfl #[.slice Ao74 t484.length co74, .slice Ao75 t458.length co75] rfl (by (try simp only [List.map_toArray, List.map_cons, List.map_nil]); first | done | rfl | (simp only [List.length_drop, List.length_take]; rfl)) ?_; (with_reducible refine (laws_eqIntS.calls kj39 _ _ t484 _ _ t458 true _ ?side1 ?side2 ?side3 ?side4 A72.out).mono ?_); (case side1 => repeat (first | exact (Kd.R_reads' HO486.out).2.2 | (with_reducible refine Kd.C_alloc ?_ _) | (with_reducible refine Kd.C_drewN ?_ _) | (with_reducible refine Kd.C_drew ?_))); (case side2 => exact (Kd.R_reads' HO486.out).2.1); (case side3 => repeat (first | exact (Kd.R_reads' HO_6.out).2.2 | (with_reducible refine Kd.C_alloc ?_ _) | (with_reducible refine Kd.C_drewN ?_ _) | (with_reducible refine Kd.C_drew ?_))); (case side4 => exact (Kd.R_reads' HO_6.out).2.1); rintro e w' ⟨rfl, ⟨nd, rfl⟩⟩; refine ⟨_, rfl, ?_⟩))
              go_meet
              case rel => exact ⟨_, ((t487 != t461)), (by first | rfl | (simp; done) | (simp [*]; done)), H', ⟨by have := HJ13.out; have := HJ39.out; first | omega | exact Nat.le_refl _⟩, ⟨by (try simp only [hl466000_39]); (with_reducible repeat (first | apply Kd.R_alloc | apply Kd.R_drewN | apply Kd.R_drew)); exact Kd.R_mono HO_9.out (fun _ hk => trivial)⟩, ⟨by (try simp only [hl466000_39]); (with_reducible repeat (first | apply Kd.R_alloc | apply Kd.R_drewN | apply Kd.R_drew)); exact Kd.R_mono HO_466000.out (fun _ hk => trivial)⟩, ⟨by (try simp only [hl466000_39]); (with_reducible repeat (first | refine blk_drewN ?_ _ | refine blk_drew ?_ | refine blk_alloc ?_ _)); exact BK453.out⟩, ⟨by (try simp only [hl466000_39]); (with_reducible repeat (first | refine blk_drewN ?_ _ | refine blk_drew ?_ | refine blk_alloc ?_ _)); exact BK465.out⟩, ⟨by repeat (first | (with_reducible first | exact HB.out | apply below_alloc | apply pw_below_drewN | apply below_drew1 | refine below_set ?_ GE453.out | refine below_set ?_ GE465.out) | exact HB.out)⟩⟩
             ·replace c73 := Bool.eq_false_iff.mpr c73
              subst c73
              have H1 : (laws_FnExactSplitPlaces.j2 kj39 t479 t478 true) = some true := by rw [if_neg (show ¬ (false = true) by decide)] at H; exact H
              exact absurd H1 (by cases kj39 <;> simp [laws_FnExactSplitPlaces.j2])
            case rest =>
             clear HC64
             try clear c1
             try clear c2
             try clear p2
             try clear c3
             try clear c3b0
             try clear c3b1
             try clear c4
             try clear c5
             try clear c6
             try clear c6b0
             try clear c7
             try clear c8
             try clear c11
             try clear c12
             try clear c15
             try clear c16
             try clear c17
             try clear c18
             try clear c19
             try clear c26
             try clear c30
             try clear c35
             try clear c38
             try clear c45
             try clear c48
             try clear c48b0
             try clear c50
             try clear c55
             try clear c58
             try clear c58b0
             try clear c61
             try clear c61b0
             try clear c61b1
             try clear c67
             try clear c73
             try clear hcz16_0
             try clear hcz18_0
             try clear hcz22_0
             try clear hcz27_0
             try clear hcz46_0
             try clear hcz68_0
             try clear hcz8_0
             try clear hfz16_0
             try clear hfz18_0
             try clear hfz22_0
             try clear hfz27_0
             try clear hfz46_0
             try clear hfz68_0
             try clear hfz8_0
             try clear p2
             obtain ⟨kq, x95_63, rfl, HA, HJ63, HO_9, HO_466000, BK453, BK465, HB⟩ := hcut
             have hl9_63 := (Kd.R_reads' HO_9.out).1
             rw [hl9_63] at HO_9
             (try simp only [hl9_63])
             (try simp only [hl9_63] at BK453)
             (try simp only [hl9_63] at BK465)
             (try simp only [hl9_63] at HO_466000)
             cases kq with
             | zero => exact absurd HA.out (by simp [laws_FnExactSplitPlaces.j2])
             | succ kj63 =>
              have H := HA.out
              clear HA
              simp only [laws_FnExactSplitPlaces.j2] at H
              by_cases c78 : x95_63 = true
              ·subst c78
               have H1 : (some false) = some true := by rw [if_pos rfl] at H; exact H
               exact absurd H1 (by simp)
              ·replace c78 := Bool.eq_false_iff.mpr c78
               subst c78
               have H1 : ((laws_heldIntS.f kj63 t479 1).bind fun t489 => (if t489 < 0 then (some false) else (if t489 = t478 then (some true) else (some false)))) = some true := by rw [if_neg (show ¬ (false = true) by decide)] at H; exact H
               clear H
               have H := H1
               clear H1
               replace H := Option.bind_eq_some_iff.mp H
               obtain ⟨t489, A790, H⟩ := H
               replace H : (if t489 < 0 then (some false) else (if t489 = t478 then (some true) else (some false))) = some true := H
               have A79 := Aside0.mk A790
               clear A790
               by_cases c80 : t489 < 0
               ·rw [if_pos c80] at H
                exact absurd H (by simp)
               ·rw [if_neg c80] at H
                have c80b0 : decide (t489 < 0) = false := decide_eq_false c80
                clear c80
                by_cases c81 : t489 = t478
                ·rw [if_pos c81] at H
                 have c81b0 : (t489 == t478) = true := beq_iff_eq.mpr c81
                 have c81b1 : (t489 != t478) = false := bne_eq_false_iff_eq.mpr c81
                 clear c81
                 (first | (obtain rfl := Option.some.inj H) | (have hH_ := Option.some.inj H; try simp only [hH_]))
                 go_wp2_with (first | ((with_reducible refine gate_callee (f := 19) rfl ?_); refine goesL_ (some 98) rfl rfl Tryz.func19 (by kernel_rfl) rfl #[.slice Ao65 t479.length co65, .int .i64 1] rfl (by (try simp only [List.map_toArray, List.map_cons, List.map_nil]); first | done | rfl | (simp only [List.length_drop, List.length_take]; rfl)) ?_; (with_reducible refine (laws_heldIntS.calls kj63 _ _ t479 1 t489 _ ?side1 ?side2 A79.out).mono ?_); (case side1 => repeat (first | exact (Kd.R_reads' HO_9.out).2.2 | (with_reducible refine Kd.C_alloc ?_ _) | (with_reducible refine Kd.C_drewN ?_ _) | (with_reducible refine Kd.C_drew ?_))); (case side2 => exact (Kd.R_reads' HO_9.out).2.1); rintro e w' ⟨rfl, ⟨nd, rfl⟩⟩; refine ⟨_, rfl, ?_⟩))
                 go_ret
                 exact ⟨by first | rfl | (simp [errW_none, errW_some] <;> rfl) | (simp [*, errW_none, errW_some] <;> rfl), by repeat (first | (with_reducible first | exact HB.out | apply below_alloc | apply pw_below_drewN | apply below_drew1 | refine below_set ?_ GE453.out | refine below_set ?_ GE465.out) | exact HB.out)⟩
                ·rw [if_neg c81] at H
                 exact absurd H (by simp)
           ·rw [if_neg c61] at H
            exact absurd H (by simp)
      ·replace c38 := Bool.eq_false_iff.mpr c38
       subst c38
       have H1 : (some false) = some true := by rw [if_neg (show ¬ (false = true) by decide)] at H; exact H
       exact absurd H1 (by simp)
end Go.Proofs.YtadpmgdmiaoniaaGreatDoor.Q
namespace Go.Proofs.YtadpmgdmiaoniaaGreatDoor.Q
open Go.RowKit Go.Proofs.YtadpmgdmiaoniaaGreatDoorW.PrintWords Go.Proofs.YtadpmgdmiaoniaaGreatDoorW.PrintLast
def lwD (b : ByteArray) : List UInt8 := b.data.toList
theorem lwD_length (b : ByteArray) : (lwD b).length = b.size := by unfold lwD; rw [Array.length_toList]; rfl
def lettersD (w : ByteArray) : Prop := ∀ x ∈ lwD w, 97 ≤ x.toNat ∧ x.toNat ≤ 122
def okWordD (w : ByteArray) : Prop := w.size ≤ 12 ∧ lettersD w
theorem bt_natD (a : ByteArray) (i : Nat) (h : i < (lwD a).length) : bt a (i : Int) = (((lwD a)[i]'h).toNat : Int) := by
  have h2 : i < a.size := by rw [← lwD_length]; exact h
  have : ((i : Int)).toNat < a.size := by simpa using h2
  rw [← bt_at a (i : Int) this]
  rfl
instance (w : ByteArray) : Decidable (lettersD w) := inferInstanceAs (Decidable (∀ x ∈ lwD w, 97 ≤ x.toNat ∧ x.toNat ≤ 122))
instance (w : ByteArray) : Decidable (okWordD w) := inferInstanceAs (Decidable (w.size ≤ 12 ∧ lettersD w))
theorem lettersB_D (w : ByteArray) : lettersB w = decide (lettersD w) := by
  rw [Bool.eq_iff_iff, decide_eq_true_eq]
  unfold lettersB lettersD lwD
  rw [List.all_eq_true]
  exact forall_congr' fun x => imp_congr Iff.rfl decide_eq_true_iff
end Go.Proofs.YtadpmgdmiaoniaaGreatDoor.Q
namespace Go.Proofs.YtadpmgdmiaoniaaGreatDoor.Q
open Go.RowKit Go.Proofs.YtadpmgdmiaoniaaGreatDoorW.PrintWords Go.Proofs.YtadpmgdmiaoniaaGreatDoorW.PrintLast
def okPass (a : ByteArray) : Prop := a.size ≤ 60 ∧ lettersD a
instance (w : ByteArray) : Decidable (okPass w) := inferInstanceAs (Decidable (w.size ≤ 60 ∧ lettersD w))
theorem text_l0 (a : ByteArray) : ∀ (n i : Nat), i + n = min a.size 61 → (∀ x ∈ (lwD a).take i, 97 ≤ x.toNat ∧ x.toNat ≤ 122) → Ev (fun k => spec_l3Text.l0 k a (i : Int)) (decide (okPass a)) := by
  intro n
  induction n with
  | zero =>
    intro i h hx
    refine Ev.succ ?_
    simp only [spec_l3Text.l0]
    have e : decide ((a.size : Int) ≤ 60) = decide (okPass a) := by
      refine decide_eq_decide.2 ⟨fun hs => ⟨by omega, ?_⟩, fun h => by have := h.1; omega⟩
      rw [List.take_of_length_le (by rw [lwD_length]; omega)] at hx
      exact hx
    by_cases hs : a.size ≤ 60
    · refine Ev.neg (by omega) (Ev.succ ?_)
      simp only [spec_l3Text.j1]
      refine Ev.neg (by decide) ?_
      rw [e]
      exact Ev.pure _
    · have e1 : i = 61 := by omega
      by_cases h13 : 61 < a.size
      · refine Ev.pos (by omega) (Ev.succ ?_)
        simp only [spec_l3Text.j1]
        refine Ev.neg (by simp; omega) ?_
        rw [e]
        exact Ev.pure _
      · refine Ev.neg (by omega) (Ev.succ ?_)
        simp only [spec_l3Text.j1]
        refine Ev.neg (by decide) ?_
        rw [e]
        exact Ev.pure _
  | succ n ih =>
    intro i h hx
    refine Ev.succ ?_
    simp only [spec_l3Text.l0]
    have hi : i < (lwD a).length := by rw [lwD_length]; omega
    refine Ev.pos (by omega) (Ev.succ ?_)
    simp only [spec_l3Text.j1, bt_natD a i hi]
    refine Ev.pos (by simp; omega) (Ev.pos (by omega) (Ev.pos (by omega) ?_))
    have hnot : ¬ (97 ≤ ((lwD a)[i]).toNat ∧ ((lwD a)[i]).toNat ≤ 122) → decide (okPass a) = false := fun hq => decide_eq_false (fun ho => hq (ho.2 _ (List.getElem_mem hi)))
    by_cases h1 : 97 ≤ ((lwD a)[i]).toNat
    · refine Ev.neg (by omega) ?_
      by_cases h2 : ((lwD a)[i]).toNat ≤ 122
      · refine Ev.neg (by omega) ?_
        rw [wnext i (by omega)]
        refine ih (i + 1) (by omega) (fun x hm => ?_)
        rw [List.take_succ_eq_append_getElem hi] at hm
        rcases List.mem_append.1 hm with hm | hm
        · exact hx x hm
        · rw [List.mem_singleton.1 hm]; exact ⟨h1, h2⟩
      · rw [hnot (by omega)]
        exact Ev.pos (by omega) (Ev.pure _)
    · rw [hnot (by omega)]
      exact Ev.pos (by omega) (Ev.pure _)
theorem text_ev (a : ByteArray) : Ev (fun k => spec_l3Text.f k a) (decide (okPass a)) := by
  unfold spec_l3Text.f
  exact text_l0 a (min a.size 61) 0 (by omega) (fun x hx => by cases hx)
theorem pass_ev (l : List IN) (a : ByteArray) : Ev (fun k => impl_arePassage.f k l a) (isTrieW l && decide (okPass a)) := by
  unfold impl_arePassage.f impl_areLetters.f
  by_cases h60 : a.size ≤ 60
  · refine Ev.pos (by omega) (Ev.bindc (by rw [if_pos (by omega), lettersB_D]) ?_)
    by_cases hl : lettersD a
    · rw [decide_eq_true (show okPass a from ⟨h60, hl⟩), Bool.and_true]
      exact Ev.pos (decide_eq_true hl) (Ev.bind (implT l rfl) (Ev.pure _))
    · rw [decide_eq_false (fun h : okPass a => hl h.2), Bool.and_false]
      exact Ev.neg (by simpa using hl) (Ev.pure _)
  · rw [decide_eq_false (fun h : okPass a => h60 h.1), Bool.and_false]
    exact Ev.neg (by omega) (Ev.pure _)
theorem good_ev (l : List IN) (a : ByteArray) : Ev (fun k => spec_l3Good.f k l a) (isTrieW l && decide (okPass a)) := by
  unfold spec_l3Good.f
  refine Ev.bind (specT l rfl) ?_
  cases h : isTrieW l with
  | false => exact Ev.neg (by decide) (Ev.pure _)
  | true => exact Ev.pos rfl (Ev.bind (text_ev a) (Ev.pure _))
theorem pass_cases (l : List IN) (a : ByteArray) : (Ev (fun k => impl_arePassage.f k l a) false ∧ Ev (fun k => spec_l3Good.f k l a) false) ∨
    ∃ ws, VW ws ∧ l = trieW ws ∧ a.size ≤ 60 ∧ Ev (fun k => impl_arePassage.f k l a) true ∧ Ev (fun k => spec_l3Good.f k l a) true ∧ impl_Trie_standing.f l a = some (standW ws a) := by
  have h1 := pass_ev l a
  have h2 := good_ev l a
  rcases trie_cases l with hf | ⟨ws, hv, rfl, ht⟩
  · rw [hf] at h1 h2; exact .inl ⟨h1, h2⟩
  · by_cases ho : okPass a
    · rw [ht, decide_eq_true ho] at h1 h2
      exact .inr ⟨ws, hv, rfl, ho.1, h1, h2, by unfold impl_Trie_standing.f; rw [ht, decide_eq_true ho.1, wordsV_trie hv]; rfl⟩
    · rw [ht, decide_eq_false ho] at h1 h2; exact .inl ⟨h1, h2⟩
def putI (l : List Int) (n : Int) : List Int := l.takeWhile (fun x => decide (x < n)) ++ n :: l.dropWhile (fun x => decide (x < n))
theorem putI_l0 (l : List Int) (n : Int) (hl : l.length ≤ 1000000) (hn : n ∉ l) : ∀ (m i : Nat), i + m = (l.takeWhile fun x => decide (x < n)).length → Ev (fun k => spec_l1Put.l0 k l n (i : Int)) (putI l n) := by
  have hle : (l.takeWhile fun x => decide (x < n)).length ≤ l.length := (List.takeWhile_prefix _).length_le
  have htd := List.takeWhile_append_dropWhile (p := fun x => decide (x < n)) (l := l)
  intro m
  induction m with
  | zero =>
    intro i h
    have ht : l.take i = l.takeWhile fun x => decide (x < n) := by
      conv => lhs; rw [← htd]
      rw [List.take_append_of_le_length (by omega), List.take_of_length_le (by omega)]
    have hd : l.drop i = l.dropWhile fun x => decide (x < n) := by
      conv => lhs; rw [← htd]
      rw [List.drop_append_of_le_length (by omega), List.drop_of_length_le (by omega), List.nil_append]
    have hput : putI l n = (([] ++ l.take i) ++ [n]) ++ l.drop i := by rw [ht, hd]; simp [putI]
    rw [hput]
    have hsz : (l.take i).length ≤ l.length := by rw [List.length_take]; omega
    have hsd : (l.drop i).length ≤ l.length := by rw [List.length_drop]; omega
    refine Ev.succ ?_
    simp only [spec_l1Put.l0, Option.bind_some, Int.toNat_natCast]
    by_cases hi : i < l.length
    · have hge : ¬ l[i] < n := by
        have h0 : (l.dropWhile fun x => decide (x < n)) ≠ [] := by rw [← hd]; intro e; have := congrArg List.length e; rw [List.length_drop] at this; simp at this; omega
        have h1 := List.head_dropWhile_not (p := fun x => decide (x < n)) h0
        have h2 : (l.dropWhile fun x => decide (x < n)).head h0 = l[i] := by
          have : (l.drop i).head (by rw [hd]; exact h0) = l[i] := by rw [List.head_drop]
          rw [← this]
          congr 1
          rw [hd]
        rw [h2] at h1
        simpa using h1
      have hne : ¬ l[i] = n := fun e => hn (e ▸ List.getElem_mem hi)
      have e : rd l (i : Int) = l[i] := by simp [rd, hi]
      rw [e]
      refine Ev.pos (by omega) (Ev.pos (by omega) (Ev.neg hge (Ev.neg hne (Ev.pos (by omega) (Ev.pos (by simp; omega) (Ev.pos (by simp; omega) (Ev.pos (by simp; omega) (Ev.pure _))))))))
    · refine Ev.neg (by omega) (Ev.pos (by omega) (Ev.pos (by omega) (Ev.pos (by simp; omega) (Ev.pos (by simp; omega) (Ev.pos (by simp; omega) (Ev.pure _))))))
  | succ m ih =>
    intro i h
    have hi : i < (l.takeWhile fun x => decide (x < n)).length := by omega
    have hil : i < l.length := by omega
    have hlt : l[i] < n := by
      have h1 : (l.takeWhile fun x => decide (x < n))[i] = l[i] := by
        have hp := List.takeWhile_prefix (fun x => decide (x < n)) (l := l)
        exact hp.getElem hi
      have h2 := List.all_takeWhile (p := fun x => decide (x < n)) (l := l)
      rw [List.all_eq_true] at h2
      have h3 := h2 _ (List.getElem_mem hi)
      rw [h1] at h3
      simpa using h3
    have e : rd l (i : Int) = l[i] := by simp [rd, hil]
    refine Ev.succ ?_
    simp only [spec_l1Put.l0, e]
    rw [wnext i (by omega)]
    exact Ev.pos (by omega) (Ev.pos (by omega) (Ev.pos hlt (ih (i + 1) (by omega))))
theorem putI_ev (l : List Int) (n : Int) (hl : l.length ≤ 1000000) (hn : n ∉ l) : Ev (fun k => spec_l1Put.f k l n) (putI l n) := putI_l0 l n hl hn (l.takeWhile fun x => decide (x < n)).length 0 (by omega)
theorem srtI_pw (zs : List Int) : (srtI zs).Pairwise (· ≤ ·) := (List.pairwise_mergeSort (le := fun x y : Int => decide (x ≤ y)) (fun a b c h1 h2 => by simp at *; omega) (fun a b => by simp; omega) zs).imp (fun h => by simpa using h)
theorem putI_perm (l : List Int) (n : Int) : (putI l n).Perm (l ++ [n]) := by
  have htd := List.takeWhile_append_dropWhile (p := fun x => decide (x < n)) (l := l)
  conv => rhs; rw [← htd]
  unfold putI
  rw [List.append_assoc]
  exact List.Perm.append_left _ (List.perm_append_comm (l₁ := [n]))
theorem putI_pw (l : List Int) (n : Int) (h : l.Pairwise (· ≤ ·)) : (putI l n).Pairwise (· ≤ ·) := by
  have htd := List.takeWhile_append_dropWhile (p := fun x => decide (x < n)) (l := l)
  rw [← htd] at h
  obtain ⟨h1, h2, h3⟩ := List.pairwise_append.1 h
  have ht : ∀ x ∈ l.takeWhile fun x => decide (x < n), x < n := fun x hx => by
    have := List.all_takeWhile (p := fun x => decide (x < n)) (l := l)
    rw [List.all_eq_true] at this
    simpa using this x hx
  have hd : ∀ x ∈ l.dropWhile fun x => decide (x < n), n ≤ x := fun x hx => by
    have h0 : (l.dropWhile fun x => decide (x < n)) ≠ [] := List.ne_nil_of_mem hx
    have h4 := List.head_dropWhile_not (p := fun x => decide (x < n)) h0
    have h5 : n ≤ (l.dropWhile fun x => decide (x < n)).head h0 := by simpa using h4
    obtain ⟨y, ys, hy⟩ := List.exists_cons_of_ne_nil h0
    simp only [hy, List.head_cons] at h5
    rw [hy] at h2 hx
    rcases List.mem_cons.1 hx with rfl | hx
    · exact h5
    · have := (List.pairwise_cons.1 h2).1 x hx
      omega
  unfold putI
  refine List.pairwise_append.2 ⟨h1, List.pairwise_cons.2 ⟨hd, h2⟩, fun a ha b hb => ?_⟩
  have := ht a ha
  rcases List.mem_cons.1 hb with rfl | hb
  · omega
  · have := hd b hb
    omega
theorem put_srt (xs : List Int) (n : Int) : putI (srtI xs) n = srtI (xs ++ [n]) :=
  List.Perm.eq_of_pairwise (fun a b _ _ h1 h2 => by omega) (putI_pw _ _ (srtI_pw xs)) (srtI_pw _) ((putI_perm _ _).trans (((srtI_perm xs).append_right [n]).trans (srtI_perm _).symm))
theorem st_eq {s x y : ByteArray} (h1 : stP s x = true) (h2 : stP s y = true) (h : x.size = y.size) : x = y := by
  have a := (st_size h1).2.1
  have b := (st_size h2).2.1
  rw [h] at a
  exact (tl_eq x y).1 (a.symm.trans b)
theorem rowS_new {ws : List ByteArray} (hv : VW ws) (s : ByteArray) (i : Nat) (hi : i < ws.length) (h : stP s ws[i] = true) : ((ws[i].size : Nat) : Int) ∉ rowS (ws.take i) s := fun hm => by
  obtain ⟨x, hx, he⟩ := List.mem_map.1 hm
  obtain ⟨hxm, hxs⟩ := List.mem_filter.1 hx
  have e := st_eq hxs h (by omega)
  subst e
  obtain ⟨j, hj, hjx⟩ := List.getElem_of_mem hxm
  rw [List.getElem_take] at hjx
  have hjl : j < i := by rw [List.length_take] at hj; omega
  have := List.pairwise_iff_getElem.1 hv.ss j i (by omega) hi hjl
  rw [hjx] at this
  exact List.lt_irrefl _ this
theorem ext_mid (p : ByteArray) (a n : Nat) : (p.extract a p.size).extract 0 n = p.extract a (a + n) := lw_inj (by
  have e : ∀ (b : ByteArray) (i j : Nat), lw (b.extract i j) = (lw b).extract i j := fun b i j => by unfold lw; rw [ByteArray.data_extract, Array.toList_extract]
  rw [e, e, e, List.extract_eq_take_drop, List.extract_eq_take_drop, List.extract_eq_take_drop]
  simp only [Nat.sub_zero, List.drop_zero]
  rw [List.take_take, ← lw_length]
  by_cases h : n ≤ (lw p).length - a
  · rw [Nat.min_eq_left h, Nat.add_sub_cancel_left]
  · rw [Nat.min_eq_right (by omega), Nat.add_sub_cancel_left, List.take_of_length_le (by rw [List.length_drop]; omega), List.take_of_length_le (by rw [List.length_drop]; omega)])
theorem stands_eq (p x : ByteArray) (a : Nat) (ha : a ≤ p.size) (hp : p.size ≤ 60) (hx : x.size ≤ 12) (h0 : ¬ x.toList = []) : spec_l3Stands.f p x (a : Int) = some (stP (p.extract a p.size) x) := by
  have hz : x.size ≠ 0 := fun e => by
    have := (lw_inj (by have := lw_length x; rw [e] at this; rw [List.length_eq_zero_iff.1 this]; rfl) : x = ByteArray.empty)
    subst this
    exact absurd h0 (by simp)
  have hs : (p.extract a p.size).size = p.size - a := by rw [ByteArray.size_extract]; omega
  have ew : wrap64 ((a : Int) + (x.size : Int)) = ((a + x.size : Nat) : Int) := by unfold wrap64; omega
  unfold spec_l3Stands.f
  rw [ew]
  by_cases h : a + x.size ≤ p.size
  · rw [if_pos (by omega), if_pos (by omega), if_pos (by omega)]
    simp only [Int.toNat_natCast]
    refine congrArg some ?_
    unfold stP begW
    rw [decide_eq_true hz, Bool.true_and, hs, decide_eq_true (show x.size ≤ p.size - a by omega), Bool.true_and, ext_mid]
    rw [Bool.eq_iff_iff, beq_iff_eq, decide_eq_true_eq]
  · rw [if_neg (by omega)]
    refine congrArg some ?_
    unfold stP begW
    rw [hs, decide_eq_false (show ¬ x.size ≤ p.size - a by omega), Bool.false_and, Bool.and_false]
theorem matches_l0 {ws : List ByteArray} (hv : VW ws) (p : ByteArray) (a : Nat) (ha : a ≤ p.size) (hp : p.size ≤ 60) : ∀ (n i : Nat), i + n = ws.length → Ev (fun k => spec_l3Matches.l0 k ws p (a : Int) (srtI (rowS (ws.take i) (p.extract a p.size))) (i : Int)) (rowAt ws p a) := by
  have h40 := hv.len
  intro n
  induction n with
  | zero =>
    intro i h
    refine Ev.succ ?_
    simp only [spec_l3Matches.l0]
    rw [List.take_of_length_le (by omega)]
    exact Ev.neg (by omega) (Ev.pure _)
  | succ n ih =>
    intro i h
    have hi : i < ws.length := by omega
    have hr := rowS_take ws (p.extract a p.size) i hi
    have e : rdOf ByteArray.empty ws (i : Int) = ws[i] := by simp [rdOf, hi]
    rw [e] at hr
    have hl := rowS_length (ws.take i) (p.extract a p.size)
    rw [List.length_take] at hl
    have hz := (hv.ok _ (List.getElem_mem hi)).1
    have hih := ih (i + 1) (by omega)
    rw [hr] at hih
    refine Ev.succ ?_
    simp only [spec_l3Matches.l0, e]
    rw [wnext i (by omega)]
    refine Ev.pos (by omega) (Ev.pos (by omega) ?_)
    by_cases h0 : ws[i].toList = []
    · have hst : stP (p.extract a p.size) ws[i] = false := by
        have : ws[i].size = 0 := size0_of (by simp [h0])
        simp [stP, this]
      rw [hst] at hih
      exact Ev.pos h0 (by simpa using hih)
    · refine Ev.neg h0 (Ev.bindc (stands_eq p ws[i] a ha hp hz h0) ?_)
      cases hst : stP (p.extract a p.size) ws[i] with
      | false =>
        rw [hst] at hih
        exact Ev.neg (by decide) (by simpa using hih)
      | true =>
        rw [hst, if_pos rfl] at hih
        refine Ev.pos rfl (Ev.bind (putI_ev _ _ (by rw [srtI_length]; omega) (fun hm => rowS_new hv _ i hi hst ((srtI_perm _).mem_iff.1 hm))) ?_)
        rw [put_srt]
        exact hih
theorem matches_ev {ws : List ByteArray} (hv : VW ws) (p : ByteArray) (a : Nat) (ha : a ≤ p.size) (hp : p.size ≤ 60) : Ev (fun k => spec_l3Matches.f k ws p (a : Int)) (rowAt ws p a) := by
  unfold spec_l3Matches.f
  have h := matches_l0 hv p a ha hp ws.length 0 (by omega)
  rw [show srtI (rowS (ws.take 0) (p.extract a p.size)) = [] by simp [rowS, srtI]] at h
  exact h
end Go.Proofs.YtadpmgdmiaoniaaGreatDoor.Q
namespace Go.Proofs.YtadpmgdmiaoniaaGreatDoor.Q
open Go.RowKit Go.Proofs.YtadpmgdmiaoniaaGreatDoorW.PrintWords Go.Proofs.YtadpmgdmiaoniaaGreatDoorW.PrintLast
def wayN (a : Nat) (m : List Int) (n : Int) : List Int := m.set a (wrap64 (rd m (a : Int) + rd m ((a : Int) + n)))
def waysF (ws : List ByteArray) (p : ByteArray) : Nat → List Int → List Int
  | 0, m => m
  | a + 1, m => waysF ws p a ((rowAt ws p a).foldl (wayN a) m)
def Sm (m : List Int) : Prop := ∀ x ∈ m, wrap64 x = x
theorem wrap_idem (x : Int) : wrap64 (wrap64 x) = wrap64 x := by unfold wrap64; omega
theorem Sm.set {m : List Int} (h : Sm m) (a : Nat) (x : Int) : Sm (m.set a (wrap64 x)) := fun y hy => by
  rcases List.mem_or_eq_of_mem_set hy with hy | rfl
  · exact h y hy
  · exact wrap_idem x
theorem way_split (a : Nat) (mb : List Int × List Int) (n : Int) (hs : Sm mb.1) (ha : a < mb.1.length) : (splitN a mb n).1 = wayN a mb.1 n := by
  unfold splitN wayN
  by_cases h : rd mb.1 ((a : Int) + n) = 0
  · rw [if_pos h, h, Int.add_zero, rdI_nat mb.1 ha, hs _ (List.getElem_mem ha), List.set_getElem_self]
  · rw [if_neg h]
theorem wayN_len (a : Nat) (m : List Int) (n : Int) : (wayN a m n).length = m.length := by simp [wayN]
theorem wayN_sm {a : Nat} {m : List Int} (h : Sm m) (n : Int) : Sm (wayN a m n) := h.set a _
theorem fold_ways (a : Nat) : ∀ (row : List Int) (mb : List Int × List Int), Sm mb.1 → a < mb.1.length → (row.foldl (splitN a) mb).1 = row.foldl (wayN a) mb.1 ∧ Sm (row.foldl (wayN a) mb.1) ∧ (row.foldl (wayN a) mb.1).length = mb.1.length
  | [], mb, hs, ha => ⟨rfl, hs, rfl⟩
  | n :: t, mb, hs, ha => by
    have e := way_split a mb n hs ha
    have hl := (splitN_len a mb n).1
    have ih := fold_ways a t (splitN a mb n) (by rw [e]; exact wayN_sm hs n) (by omega)
    rw [e] at ih
    simp only [List.foldl_cons]
    exact ⟨ih.1, ih.2.1, ih.2.2.trans (wayN_len a mb.1 n)⟩
theorem ways_split (ws : List ByteArray) (p : ByteArray) : ∀ (a : Nat) (mb : List Int × List Int), Sm mb.1 → a ≤ mb.1.length → (splitsF ws p a mb).1 = waysF ws p a mb.1
  | 0, mb, hs, ha => rfl
  | a + 1, mb, hs, ha => by
    obtain ⟨h1, h2, h3⟩ := fold_ways a (rowAt ws p a) mb hs (by omega)
    show (splitsF ws p a _).1 = waysF ws p a _
    rw [ways_split ws p a _ (by rw [h1]; exact h2) (by rw [h1, h3]; omega), h1]
def ways0 (p : ByteArray) : List Int := (List.replicate (p.size + 1) 0).set p.size 1
theorem ways0_sm (p : ByteArray) : Sm (ways0 p) := fun x hx => by
  rcases List.mem_or_eq_of_mem_set hx with hx | rfl
  · rw [(List.mem_replicate.1 hx).2]; unfold wrap64; omega
  · unfold wrap64; omega
theorem splitsW_ways (ws : List ByteArray) (p : ByteArray) : (splitsW ws p).1 = waysF ws p p.size (ways0 p) := ways_split ws p p.size (splits0 p) (ways0_sm p) (by simp [splits0])
theorem ways_l1 {ws : List ByteArray} (p : ByteArray) (hp : p.size ≤ 60) (a : Nat) (ha : a < p.size) (row : List Int) (hrl : row.length ≤ 40) (hrow : ∀ n ∈ row, 1 ≤ n ∧ n + a ≤ p.size) (m0 : List Int) (r : List Int)
    (hn : Ev (fun k => spec_l3Ways.l0 k ws p (row.foldl (wayN a) m0) ((a : Int) - 1)) r) : ∀ (n i : Nat) (m : List Int), i + n = row.length → m.length = p.size + 1 → m = (row.take i).foldl (wayN a) m0 → Ev (fun k => spec_l3Ways.l1 k ws p m (a : Int) row (i : Int)) r := by
  intro n
  induction n with
  | zero =>
    intro i m h hl he
    rw [List.take_of_length_le (by omega)] at he
    refine Ev.succ ?_
    simp only [spec_l3Ways.l1]
    rw [wprev a (by omega), he]
    exact Ev.neg (by omega) hn
  | succ n ih =>
    intro i m h hl he
    have hi : i < row.length := by omega
    have hm := hrow _ (List.getElem_mem hi)
    have ew : wrap64 ((a : Int) + row[i]) = (a : Int) + row[i] := by unfold wrap64; omega
    refine Ev.succ ?_
    simp only [spec_l3Ways.l1, rdI_nat row hi, Int.toNat_natCast]
    rw [ew, wnext i (by omega)]
    refine Ev.pos (by omega) (Ev.pos (by omega) (Ev.pos (by omega) (Ev.pos (by omega) (Ev.pos (by omega) (Ev.pos (by omega) (ih (i + 1) _ (by omega) (by simpa using hl) ?_))))))
    rw [List.take_succ_eq_append_getElem hi, List.foldl_append, ← he]
    rfl
theorem fold_wlen (a : Nat) : ∀ (row : List Int) (m : List Int), (row.foldl (wayN a) m).length = m.length
  | [], m => rfl
  | n :: t, m => (fold_wlen a t (wayN a m n)).trans (wayN_len a m n)
theorem ways_l0 {ws : List ByteArray} (hv : VW ws) (p : ByteArray) (hp : p.size ≤ 60) : ∀ (a : Nat) (m : List Int), a ≤ p.size → m.length = p.size + 1 → Ev (fun k => spec_l3Ways.l0 k ws p m ((a : Int) - 1)) (waysF ws p a m)
  | 0, m, ha, hl => by
    refine Ev.succ ?_
    simp only [spec_l3Ways.l0]
    exact Ev.neg (by omega) (Ev.pure _)
  | a + 1, m, ha, hl => by
    have ih := ways_l0 hv p hp a ((rowAt ws p a).foldl (wayN a) m) (by omega) (by rw [fold_wlen]; exact hl)
    refine Ev.succ ?_
    simp only [spec_l3Ways.l0]
    rw [show ((a + 1 : Nat) : Int) - 1 = (a : Int) by omega]
    exact Ev.pos (by omega) (Ev.bind (matches_ev hv p a (by omega) hp) (ways_l1 p hp a (by omega) (rowAt ws p a) (rowAt_length hv p a) (fun n hn => rowAt_mem hn) m _ ih (rowAt ws p a).length 0 m (by omega) hl rfl))
theorem ways_ev {ws : List ByteArray} (hv : VW ws) (p : ByteArray) (hp : p.size ≤ 60) : Ev (fun k => spec_l3Ways.f k ws p) (splitsW ws p).1 := by
  unfold spec_l3Ways.f
  have ew : wrap64 ((p.size : Int) + 1) = ((p.size + 1 : Nat) : Int) := by unfold wrap64; omega
  rw [ew, splitsW_ways]
  simp only [Int.toNat_natCast]
  refine Ev.pos (by omega) (Ev.pos (by omega) (Ev.bind (Ev.pure _) (Ev.pos (by omega) (Ev.pos (by simp; omega) ?_))))
  rw [wprev p.size (by omega)]
  exact ways_l0 hv p hp p.size (ways0 p) (Nat.le_refl _) (by simp [ways0])
theorem splits_len (ws : List ByteArray) (p : ByteArray) : ∀ (a : Nat) (mb : List Int × List Int), (splitsF ws p a mb).1.length = mb.1.length ∧ (splitsF ws p a mb).2.length = mb.2.length
  | 0, mb => ⟨rfl, rfl⟩
  | a + 1, mb => by
    have h := foldN_len a (rowAt ws p a) mb
    have ih := splits_len ws p a ((rowAt ws p a).foldl (splitN a) mb)
    exact ⟨ih.1.trans h.1, ih.2.trans h.2⟩
theorem splitsW_len (ws : List ByteArray) (p : ByteArray) : (splitsW ws p).1.length = p.size + 1 ∧ (splitsW ws p).2.length = p.size + 1 := by
  have h := splits_len ws p p.size (splits0 p)
  exact ⟨h.1.trans (by simp [splits0]), h.2.trans (by simp [splits0])⟩
theorem splits_of {ws : List ByteArray} (hv : VW ws) (p : ByteArray) (h : impl_Trie_standing.f (trieW ws) p = some (standW ws p)) : impl_Trie_splits.f (trieW ws) p = some (splitsW ws p) := by
  unfold impl_Trie_standing.f at h
  unfold impl_Trie_splits.f
  split at h
  case isFalse => cases h
  rename_i hc
  rw [if_pos hc, wordsV_trie hv]
end Go.Proofs.YtadpmgdmiaoniaaGreatDoor.Q
namespace Go.Proofs.YtadpmgdmiaoniaaGreatDoor.Q
open Go.RowKit Go.Proofs.YtadpmgdmiaoniaaGreatDoorW.PrintWords Go.Proofs.YtadpmgdmiaoniaaGreatDoorW.PrintLast
theorem markNodeS_l0 : ∀ (n : Nat) (l : List IN) (m i : Nat), i + n = l.length → l.length ≤ 1048576 → m ≤ 1 + 3 * i → ∃ r : Nat × List IN, Ev (fun k => laws_markNodeS.l0 k l (m : Int) (i : Int)) ((r.1 : Int), r.2) := by
  intro n
  induction n with
  | zero =>
    intro l m i h hl hm
    refine ⟨(m, l), Ev.succ ?_⟩
    simp only [laws_markNodeS.l0]
    exact Ev.neg (by omega) (Ev.pure _)
  | succ n ih =>
    intro l m i h hl hm
    have e1 : wrap64 ((m : Int) + 1) = ((m + 1 : Nat) : Int) := by unfold wrap64; omega
    have e2 : wrap64 (((m + 1 : Nat) : Int) + 1) = ((m + 2 : Nat) : Int) := by unfold wrap64; omega
    have e3 : wrap64 (((m + 2 : Nat) : Int) + 1) = ((m + 3 : Nat) : Int) := by unfold wrap64; omega
    obtain ⟨y, hy⟩ : ∃ y, y = l.set (i : Int).toNat (⟨(m : Int), (rd_T70 l (i : Int)).f1, (rd_T70 l (i : Int)).f2⟩ : IN) := ⟨_, rfl⟩
    obtain ⟨z, hz⟩ : ∃ z, z = y.set (i : Int).toNat (⟨(rd_T70 y (i : Int)).f0, ((m + 1 : Nat) : Int), (rd_T70 y (i : Int)).f2⟩ : IN) := ⟨_, rfl⟩
    have hyl : y.length = l.length := by rw [hy, List.length_set]
    have hzl : z.length = l.length := by rw [hz, List.length_set, hyl]
    obtain ⟨r, hr⟩ := ih (z.set (i : Int).toNat ⟨(rd_T70 z (i : Int)).f0, (rd_T70 z (i : Int)).f1, ((Int.tmod ((m + 2 : Nat) : Int) 3) == 0)⟩) (m + 3) (i + 1) (by rw [List.length_set, hzl]; omega) (by rw [List.length_set, hzl]; exact hl) (by omega)
    refine ⟨r, Ev.succ ?_⟩
    simp only [laws_markNodeS.l0, e1, e2, e3, Option.bind_some]
    rw [wnext i (by omega), ← hy, ← hz]
    exact Ev.pos (by omega) (Ev.pos (by omega) hr)
theorem markTrie_ev (l : List IN) (hl : l.length ≤ 1048576) : ∃ r : Nat × List IN, Ev (fun k => laws_markTrie.f k l 1) ((r.1 : Int), r.2) := by
  obtain ⟨r, hr⟩ := markNodeS_l0 l.length l 1 0 (by omega) hl (by omega)
  exact ⟨r, by unfold laws_markTrie.f laws_markNodeS.f; exact Ev.bind hr (Ev.pure _)⟩
end Go.Proofs.YtadpmgdmiaoniaaGreatDoor.Q
namespace Go.Proofs.YtadpmgdmiaoniaaGreatDoor.Q
open Go.RowKit Go.Proofs.YtadpmgdmiaoniaaGreatDoorW.PrintWords Go.Proofs.YtadpmgdmiaoniaaGreatDoorW.PrintLast
theorem rdN (ks : List Int) {i : Nat} (h : i < ks.length) : rd ks (i : Int) = ks[i] := by simp [rd, h]
theorem eqIntS_l0 (a b : List Int) (hab : a.length = b.length) (hl : a.length ≤ 1099511627776) : ∀ (n i : Nat), i + n = a.length → Ev (fun k => laws_eqIntS.l0 k a b (i : Int)) (decide (a.drop i = b.drop i)) := by
  intro n
  induction n with
  | zero =>
    intro i h
    refine Ev.succ ?_
    simp only [laws_eqIntS.l0]
    refine Ev.neg (by omega) ?_
    rw [List.drop_of_length_le (by omega), List.drop_of_length_le (by omega)]
    exact Ev.pure _
  | succ n ih =>
    intro i h
    refine Ev.succ ?_
    simp only [laws_eqIntS.l0]
    have hi : i < a.length := by omega
    have hi2 : i < b.length := by omega
    refine Ev.pos (by omega) (Ev.pos (by omega) (Ev.pos (by omega) ?_))
    rw [rdN a hi, rdN b hi2]
    have hd : (a.drop i = b.drop i) ↔ (a[i] = b[i] ∧ a.drop (i + 1) = b.drop (i + 1)) := by
      rw [List.drop_eq_getElem_cons hi, List.drop_eq_getElem_cons hi2]
      exact List.cons_eq_cons
    have hd2 : decide (a.drop i = b.drop i) = decide (a[i] = b[i] ∧ a.drop (i + 1) = b.drop (i + 1)) := decide_eq_decide.2 hd
    rw [hd2]
    by_cases e : a[i] = b[i]
    · refine Ev.pos e ?_
      rw [wnext i (by omega)]
      have hq := ih (i + 1) (by omega)
      have e2 : decide (a[i] = b[i] ∧ a.drop (i + 1) = b.drop (i + 1)) = decide (a.drop (i + 1) = b.drop (i + 1)) := decide_eq_decide.2 (and_iff_right e)
      rw [e2]
      exact hq
    · refine Ev.neg e ?_
      have e2 : decide (a[i] = b[i] ∧ a.drop (i + 1) = b.drop (i + 1)) = false := decide_eq_false (fun h => e h.1)
      rw [e2]
      exact Ev.pure _
theorem eqIntS_ev (a b : List Int) (hl : a.length ≤ 1099511627776) : Ev (fun k => laws_eqIntS.f k a b) (decide (a = b)) := by
  unfold laws_eqIntS.f
  by_cases hab : a.length = b.length
  · refine Ev.pos (by omega) ?_
    simpa using eqIntS_l0 a b hab hl a.length 0 (by omega)
  · rw [decide_eq_false (fun h => hab (congrArg List.length h))]
    exact Ev.neg (by omega) (Ev.pure _)
def MarkedI (l : List Int) : Prop := ∀ i (h : i < l.length), l[i] = ((1 + i : Nat) : Int)
theorem markI_l0 : ∀ (d : Nat) (l : List Int) (i : Nat), i + d = l.length → l.length ≤ 1099511627776 → (∀ j (h : j < l.length), j < i → l[j] = ((1 + j : Nat) : Int)) →
    ∃ ms : List Int, ms.length = l.length ∧ MarkedI ms ∧ Ev (fun k => laws_markIntS.l0 k l ((1 + i : Nat) : Int) (i : Int)) (((1 + l.length : Nat) : Int), ms) := by
  intro d
  induction d with
  | zero =>
    intro l i h hl hm
    refine ⟨l, rfl, fun j hj => hm j hj (by omega), Ev.succ ?_⟩
    simp only [laws_markIntS.l0]
    obtain rfl : i = l.length := by omega
    exact Ev.neg (by omega) (Ev.pure _)
  | succ d ih =>
    intro l i h hl hm
    obtain ⟨ms, h1, h2, h3⟩ := ih (l.set i ((1 + i : Nat) : Int)) (i + 1) (by rw [List.length_set]; omega) (by rw [List.length_set]; exact hl) (fun j hj hji => by
      rw [List.length_set] at hj
      rw [List.getElem_set]
      split
      · rename_i e; subst e; rfl
      · exact hm j hj (by omega))
    rw [List.length_set] at h1 h3
    refine ⟨ms, h1, h2, Ev.succ ?_⟩
    simp only [laws_markIntS.l0, Int.toNat_natCast]
    rw [wnext i (by omega), wnext (1 + i) (by omega)]
    exact Ev.pos (by omega) (Ev.pos (by omega) h3)
theorem heldI_l0 (l : List Int) (hl : l.length ≤ 1099511627776) (hm : MarkedI l) : ∀ (d i : Nat), i + d = l.length → Ev (fun k => laws_heldIntS.l0 k l ((1 + i : Nat) : Int) (i : Int)) ((1 + l.length : Nat) : Int) := by
  intro d
  induction d with
  | zero =>
    intro i h
    refine Ev.succ ?_
    simp only [laws_heldIntS.l0]
    obtain rfl : i = l.length := by omega
    exact Ev.neg (by omega) (Ev.pure _)
  | succ d ih =>
    intro i h
    refine Ev.succ ?_
    simp only [laws_heldIntS.l0]
    have hi : i < l.length := by omega
    rw [rdN l hi, hm i hi, wnext i (by omega), wnext (1 + i) (by omega)]
    exact Ev.pos (by omega) (Ev.pos (by omega) (Ev.pos rfl (ih (i + 1) (by omega))))
theorem markI_ev (l : List Int) (hl : l.length ≤ 1099511627776) : ∃ ms : List Int, Ev (fun k => laws_markIntS.f k l 1) (((1 + l.length : Nat) : Int), ms) ∧ Ev (fun k => laws_heldIntS.f k ms 1) ((1 + l.length : Nat) : Int) := by
  obtain ⟨ms, h1, h2, h3⟩ := markI_l0 l.length l 0 (by omega) hl (fun j _ hj => absurd hj (Nat.not_lt_zero _))
  refine ⟨ms, ?_, ?_⟩
  · unfold laws_markIntS.f; exact h3
  · unfold laws_heldIntS.f
    have := heldI_l0 ms (by omega) h2 ms.length 0 (by omega)
    rw [h1] at this
    exact this
end Go.Proofs.YtadpmgdmiaoniaaGreatDoor.Q
