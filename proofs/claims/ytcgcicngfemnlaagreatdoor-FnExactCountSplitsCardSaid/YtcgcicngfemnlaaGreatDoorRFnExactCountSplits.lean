/- The law FnExactCountSplits: for every input the call answers true and leaves its arguments as they were. -/
import Derived.Test.YtcgcicngfemnlaaGreatDoorB0
import Derived.Test.YtcgcicngfemnlaaGreatDoorB1
import Derived.Test.YtcgcicngfemnlaaGreatDoorB2
import Derived.Test.YtcgcicngfemnlaaGreatDoorB3
import Derived.Test.YtcgcicngfemnlaaGreatDoorBwWords
import Derived.Test.YtcgcicngfemnlaaGreatDoorBwLast
import Derived.Test.YtcgcicngfemnlaaGreatDoorBwTab
import Derived.Test.YtcgcicngfemnlaaGreatDoorBwApart
import Derived.Test.YtcgcicngfemnlaaGreatDoorBwFoot
import Derived.Test.YtcgcicngfemnlaaGreatDoorBwKept
import Derived.Test.YtcgcicngfemnlaaGreatDoorBwShare
import Derived.Test.YtcgcicngfemnlaaGreatDoorBwN
import Derived.Test.YtcgcicngfemnlaaGreatDoorBwEqStruct
import Derived.Test.YtcgcicngfemnlaaGreatDoorBwRepsOne
import Derived.Test.YtcgcicngfemnlaaGreatDoorBwGuard
import Derived.Test.YtcgcicngfemnlaaGreatDoorBwMore
import Derived.Test.YtcgcicngfemnlaaGreatDoorProg
import Derived.Below
import Derived.Deep.Draws
import Derived.Deep.AppendLies
import Derived.Maps.AppendAt
import Derived.OwnWalk
import Derived.Laws.BytesArg
import Derived.Laws.MakeOwn
import Derived.Laws.OwnMore
import Derived.Deep.OwnRows
import Derived.Tactics
import Derived.Lib.ConvBytes
import Derived.Laws.Slices
import Derived.WalkKit
import Derived.KernelRfl
import Derived.RowKit3
import Derived.Deep.LoopGhost
import Derived.Deep.QuietTactic
import Derived.BigQuiet
import Derived.WideLaws
import Derived.Deep.DeepCutAuto
import Derived.Deep.CutBlock
import Derived.Deep.RegionHeld3
import Derived.Laws.Rows
import Derived.Lib.AppendStr
import Derived.ArgAppend
import Derived.Laws.IdiomCopy
import Derived.OrdersHeld
import Derived.Laws.BitsLemmas
import Derived.RowKit
import Derived.Lib.SlicesCompact
import Derived.Maps.Own
import Derived.StringKeys
import Derived.Maps.OwnOps
import Derived.Maps.OwnSet
import Derived.Maps.Views
import Derived.Laws.AppendOwn
import Derived.Deep.DrawnRows
import Derived.Shelf.Sort.Plain
import Derived.Shelf.Slices.CompactS
import Derived.Shelf.Slices.In.SortNone
import Derived.RangeFuncBox
import Derived.RangeFuncLeaves
import Derived.Shelf.Abstract
import Derived.OwnWalkIn
import Derived.TacticsInMore
import Derived.LoopNIn
import Derived.LoopIn
import Derived.Lib.OwnBridge
import Derived.Sort.OwnSorted
import Derived.Sort.Grow
import Derived.Shelf.Strings.OnBuilder
import Derived.Ground.NamesProg
import Derived.Ground.SlgfProg
import Derived.Sort.Walk0
import Derived.Lib.Strings
import Derived.Shelf.Strings.SlTrimAscii
import Derived.Shelf.SlicesE.DeleteFunc
import Derived.Lib.SliceRun
import Derived.Sort.OwnSortedInts
import Derived.Deep.Slices
import Derived.Deep.Fields
import Derived.ChangeSame
import Derived.ChangeArms
import Derived.WideShapes
import Derived.Test.YtcgcicngfemnlaaGreatDoorRows
import Derived.Test.YtcgcicngfemnlaaGreatDoorTie
import Derived.Test.YtcgcicngfemnlaaGreatDoorCards
import Derived.ProofKit
import Derived.OpenShut
import Derived.ShutString
import Derived.ChangeOld
import Derived.SizedLaws
import Derived.Carry
import Derived.LaidMore
import Derived.Lay
import Derived.SevenTiedAt
import Derived.Stop.Joined
set_option linter.unusedVariables false
set_option linter.unusedSimpArgs false
namespace Go.Proofs.YtcgcicngfemnlaaGreatDoor.Q
open Go.RowKit Go.Sort Go.Shelf Go.Proofs.YtcgcicngfemnlaaGreatDoorW.PrintWords Go.Proofs.YtcgcicngfemnlaaGreatDoorW.PrintLast Go.Proofs.YtcgcicngfemnlaaGreatDoorW.PrintMore
set_option linter.unusedVariables false
def stP (s x : ByteArray) : Bool := decide (x.size ≠ 0) && begW s x
def rowS (ws : List ByteArray) (s : ByteArray) : List Int := (ws.filter (stP s)).map fun x => (x.size : Int)
def rowAt (ws : List ByteArray) (p : ByteArray) (j : Nat) : List Int := srtI (rowS ws (p.extract j p.size))
def standW (ws : List ByteArray) (p : ByteArray) : List (List Int) := (List.range (p.size + 1)).map (rowAt ws p)
theorem rowS_take (ws : List ByteArray) (s : ByteArray) (k : Nat) (h : k < ws.length) : rowS (ws.take (k + 1)) s = rowS (ws.take k) s ++ (if stP s (rdOf ByteArray.empty ws (k : Int)) then [((rdOf ByteArray.empty ws (k : Int)).size : Int)] else []) := by
  have e : rdOf ByteArray.empty ws (k : Int) = ws[k] := by simp [rdOf, h]
  rw [e]
  unfold rowS
  rw [List.take_succ_eq_append_getElem h, List.filter_append, List.map_append]
  congr 1
  by_cases hs : stP s ws[k] = true
  · rw [if_pos hs]; simp [hs]
  · rw [if_neg hs]; simp [hs]
theorem rowS_length (ws : List ByteArray) (s : ByteArray) : (rowS ws s).length ≤ ws.length := by
  unfold rowS; rw [List.length_map]; exact List.length_filter_le _ _
structure Std (G N : Nat) (ws : List ByteArray) (p : ByteArray) (W : World) (cs : List Value) (n : Nat) : Prop where
  box : W.heap[G]? = some (.cells cs.toArray 38 (0, 0))
  len : cs.length = N
  done : ∀ j, j < n → j < N → Kd.R (Kd.int .i64) 3 W (G + 1) (fun _ => True) (cs.getD j undef) (rowAt ws p j)
  rest : ∀ j, n ≤ j → j < N → cs.getD j undef = .slice none 0 0
  apart : ∀ i j k, i < j → j < n → j < N → (cs.getD j undef).ownBlock = some k → (cs.getD i undef).ownBlock ≠ some k
structure Rnd (G n : Nat) (W1 : World) (cs : List Value) (W : World) (v : Value) (xs : List Int) : Prop where
  keep : KeepBut W1 W G none
  box : W.heap[G]? = some (.cells (cs.set n v).toArray 38 (0, 0))
  row : Kd.R (Kd.int .i64) 3 W W1.heap.size (fun _ => True) v xs
theorem Std.move {G N : Nat} {ws : List ByteArray} {p : ByteArray} {W W' : World} {cs : List Value} {n : Nat} (h : Std G N ws p W cs n) (hb : Below W.heap.size W W') : Std G N ws p W' cs n :=
  ⟨(hb.block G (lt_of_heap h.box)).trans h.box, h.len, fun j h1 h2 => Kd.R_below (h.done j h1 h2) hb, h.rest, h.apart⟩
theorem Std.next {G N : Nat} {ws : List ByteArray} {p : ByteArray} {W1 W W' : World} {cs : List Value} {n : Nat} {v : Value} {xs : List Int} (h : Std G N ws p W1 cs n) (hr : Rnd G n W1 cs W v xs) (hn : n < N)
    (hR : Kd.R (Kd.int .i64) 3 W' W1.heap.size (fun _ => True) v (rowAt ws p n)) (hg : W.grownBy W' v.ownBlock) : Std G N ws p W' (cs.set n v) (n + 1) := by
  have hG := lt_of_heap h.box
  have hv : ∀ k, v.ownBlock = some k → W1.heap.size ≤ k := fun k hk => own_base (Kd.R_own hR).choose_spec k hk
  have hs := hr.keep.1
  refine ⟨?_, by rw [List.length_set, h.len], fun j h1 h2 => ?_, fun j h1 h2 => ?_, fun i j k hij h1 h2 => ?_⟩
  · rw [hg.block G (by omega) (fun e => by have := hv G e.symm; omega)]
    exact hr.box
  · by_cases hj : j = n
    · subst hj
      have e : (cs.set j v).getD j undef = v := by simp [List.getD, h.len, hn]
      rw [e]
      exact Kd.R_lower hR (by omega)
    · have e : (cs.set n v).getD j undef = cs.getD j undef := by simp [List.getD, List.getElem?_set, Ne.symm hj]
      rw [e]
      have hd := h.done j (by omega) h2
      refine Kd.R_mono (Kd.R_move (Kd.R_bound hd) fun k hk => ?_) (fun _ _ => trivial)
      have h3 := hk.2.1
      have h4 := hk.2.2.1
      rw [hg.block k (by omega) (fun e => by have := hv k e.symm; omega)]
      exact hr.keep.2 k h4 (by omega) (by simp)
  · have e : (cs.set n v).getD j undef = cs.getD j undef := by simp [List.getD, List.getElem?_set, show n ≠ j by omega]
    rw [e]
    exact h.rest j (by omega) h2
  · have ei : (cs.set n v).getD i undef = cs.getD i undef := by simp [List.getD, List.getElem?_set, show n ≠ i by omega]
    rw [ei]
    by_cases hj : j = n
    · subst hj
      have e : (cs.set j v).getD j undef = v := by simp [List.getD, h.len, hn]
      rw [e]
      intro hk hk2
      have h3 := hv k hk
      have h4 := (Kd.R_bound (h.done i hij (by omega))).1 k hk2
      omega
    · have e : (cs.set n v).getD j undef = cs.getD j undef := by simp [List.getD, List.getElem?_set, Ne.symm hj]
      rw [e]
      exact h.apart i j k hij (by omega) h2
theorem Rnd.start {G n N : Nat} {ws : List ByteArray} {p : ByteArray} {W1 : World} {cs : List Value} (h : Std G N ws p W1 cs n) (hn : n < N) : Rnd G n W1 cs W1 (.slice none 0 0) [] := by
  refine ⟨KeepBut.refl _ _ _, ?_, Kd.R_nil _ _ _ _ _⟩
  have e : cs.set n (.slice none 0 0) = cs := by
    apply List.ext_getElem (by simp)
    intro j h1 h2
    by_cases hj : n = j
    · subst hj
      have := h.rest n (Nat.le_refl _) hn
      simp [List.getD, h2] at this
      simp [this]
    · simp [List.getElem_set, hj]
  rw [e]
  exact h.box
theorem Rnd.snoc {G n : Nat} {W1 W Wa : World} {cs : List Value} {v v1 : Value} {xs : List Int} {x : Int} (hn : n < cs.length) (hG : G < W1.heap.size) (h : Rnd G n W1 cs W v xs)
    (hR : Kd.R (Kd.int .i64) 3 Wa W1.heap.size (fun _ => True) v1 (xs ++ [x])) (hb : Below W1.heap.size W Wa) : Rnd G n W1 cs (Wa.setCell ⟨G, n, none⟩ v1) v1 (xs ++ [x]) := by
  have hs := hb.size
  have hk := h.keep.1
  refine ⟨⟨by simp; omega, fun k h1 h2 h3 => ?_⟩, ?_, ?_⟩
  · rw [Below.heap_setCell _ _ _ _ (by simpa using h2), hb.block k h1]
    exact h.keep.2 k h1 h2 h3
  · have e := blk_put ((hb.block G hG).trans h.box) n v1 rfl
    rw [e]
    simp [List.set_set]
  · exact Kd.R_mono (Kd.R_move (Kd.R_bound hR) fun k hk => Below.heap_setCell _ _ _ _ (by have := hk.2.1; simp; omega)) (fun _ _ => trivial)
theorem Std.all {G : Nat} {ws : List ByteArray} {p : ByteArray} {W : World} {cs : List Value} {base : Nat} (h : Std G (p.size + 1) ws p W cs (p.size + 1)) (hbase : base ≤ G) (hp : p.size ≤ 60) : Kd.S (Kd.slice 3 (Kd.int .i64)) 38 W base (fun _ => True) (.slice (some ⟨G, 0, none⟩) (p.size + 1) (p.size + 1)) (standW ws p) := by
  have hl : (standW ws p).zipIdx.length = p.size + 1 := by simp [standW]
  have hc := h.len
  refine ⟨fun k => cs.findIdx fun v => decide (v.ownBlock = some k), fun _ _ => trivial, cs, ?_, ?_⟩
  · rw [hl]
    exact ⟨by show cs.length = (p.size + 1) * 1; omega, .inr ⟨G, p.size + 1, cs.toArray, rfl, hbase, h.box, Nat.le_refl _, by unfold maxLen; omega, by show cs.toArray.size = (p.size + 1) * 1; simp [hc], by show cs.toArray.toList.take ((p.size + 1) * 1) = cs; rw [Nat.mul_one, ← hc]; simp⟩⟩
  · refine ⟨by show cs.length = _ * 1; rw [hl, hc, Nat.mul_one], fun j q hj => ?_⟩
    have hjl : j < p.size + 1 := by
      have := (List.getElem?_eq_some_iff.1 hj).1
      omega
    have e : (rowAt ws p j, j) = q := by
      rw [List.getElem?_zipIdx, Nat.zero_add] at hj
      simpa [standW, hjl] using hj
    subst e
    have hd := h.done j hjl hjl
    have hcj : j < cs.length := by rw [hc]; exact hjl
    have e : cs.getD j undef = cs[j] := by rw [List.getD_eq_getElem?_getD, List.getElem?_eq_getElem hcj]; rfl
    refine ⟨cs.getD j undef, ?_, ?_⟩
    · show (cs.drop (j * 1)).take 1 = _
      rw [Nat.mul_one, List.drop_eq_getElem_cons hcj, e]
      rfl
    · refine Kd.R_lower (Kd.R_of_own (Kd.own_of_R hd) fun k hk => ⟨⟨trivial, fun e2 => ?_⟩, ?_⟩) (by omega)
      · have h3 := (Kd.R_bound hd).1 k hk
        have e3 : G = k := by simpa [Value.ownBlock] using e2.symm
        omega
      · show (cs.findIdx fun v => decide (v.ownBlock = some k)) = j
        rw [List.findIdx_eq hcj]
        refine ⟨by rw [← e]; exact decide_eq_true hk, fun i hi => ?_⟩
        have hci : i < cs.length := by omega
        have ei : cs.getD i undef = cs[i] := by rw [List.getD_eq_getElem?_getD, List.getElem?_eq_getElem hci]; rfl
        rw [← ei]
        exact decide_eq_false (h.apart i j k hi hjl hjl hk)
theorem hasPrefix_calls (s x : ByteArray) (h1 : x.size ≤ s.size) (h2 : (s.extract 0 x.size).toList = x.toList) (w : World) : Calls Tryz.prog 74 #[.string s, .string x] w fun e w' => e = .returned (.bool true) ∧ w = w' := by
  have h3 : ((s.extract 0 x.size).toList == x.toList) = true := beq_iff_eq.2 h2
  go_enter Tryz.func74, Tryz.ntmps74
  go_wp2
  go_ret
  exact ⟨rfl, rfl⟩
def impl_Trie_standing.f (l0_0 : List IN) (a1 : ByteArray) : Option (List (List Int)) := if isTrieW l0_0 && decide (a1.size ≤ 60) then some (standW (wordsV l0_0) a1) else none
theorem makeS (n : Nat) (hn : n ≤ 60) : ∀ W : World, (Instr.makeSlice 62 (.int .i64 ((n : Int) + 1)) (.int .i64 ((n : Int) + 1))).run Tryz.prog W = .ok (.slice (some ⟨W.heap.size, 0, none⟩) (n + 1) (n + 1)) (W.alloc (.cells (madeCells #[.slice none 0 0] (n + 1)) 38)) := fun W => by
  have h := print_make_of (P := Tryz.prog) 62 38 (.slice none 0 0) 24 Tryz.underlying62 (by kernel_rfl) rfl (by decide) (n + 1) (by omega) W
  rwa [Int.natCast_add] at h
theorem std_start (w : World) (ws : List ByteArray) (p : ByteArray) (N : Nat) : Std w.heap.size N ws p (w.alloc (.cells (madeCells #[.slice none 0 0] N) 38)) (List.replicate N (.slice none 0 0)) 0 := by
  refine ⟨?_, by simp, fun j h => absurd h (Nat.not_lt_zero _), fun j _ h => by simp [List.getD, h], fun _ j _ _ h => absurd h (Nat.not_lt_zero j)⟩
  have h := World.alloc_heap_new w (.cells (madeCells #[.slice none 0 0] N) 38)
  have e : madeCells #[Value.slice none 0 0] N = (List.replicate N (Value.slice none 0 0)).toArray := by
    apply Array.ext
    · simp [size_madeCells]
    · intro i h1 h2
      simp [madeCells, Nat.mod_one]
  rw [e] at h ⊢
  exact h
theorem box_n {W : World} {G n t : Nat} {cs : List Value} {v : Value} (h : W.heap[G]? = some (.cells (cs.set n v).toArray t (0, 0))) (hn : n < cs.length) : W.cell? ⟨G, n, none⟩ = some v ∧ W.frozen? ⟨G, n, none⟩ = false :=
  ⟨by simp [World.cell?, h, hn], by simp [World.frozen?, h]⟩
theorem st_cases (s x : ByteArray) : (stP s x = false ∧ x.toList = []) ∨ (stP s x = false ∧ ¬ x.toList = [] ∧ decide (x.size ≤ s.size) = false) ∨ (stP s x = false ∧ ¬ x.toList = [] ∧ x.size ≤ s.size ∧ ((s.extract 0 x.size).toList == x.toList) = false) ∨ (stP s x = true ∧ ¬ x.toList = [] ∧ x.size ≤ s.size ∧ ((s.extract 0 x.size).toList == x.toList) = true) := by
  by_cases h0 : x.toList = []
  · have : x.size = 0 := size0_of (by simp [h0])
    exact .inl ⟨by simp [stP, this], h0⟩
  · have hz : x.size ≠ 0 := fun e => by
      have := (lw_inj (by have := lw_length x; rw [e] at this; rw [List.length_eq_zero_iff.1 this]; rfl) : x = ByteArray.empty)
      subst this
      exact absurd h0 (by simp)
    by_cases h1 : x.size ≤ s.size
    · cases h2 : ((s.extract 0 x.size).toList == x.toList) with
      | false => exact .inr (.inr (.inl ⟨by have h3 := beq_eq_false_iff_ne.1 h2; simp [stP, begW, h3], h0, h1, rfl⟩))
      | true => exact .inr (.inr (.inr ⟨by have h3 := beq_iff_eq.1 h2; simp [stP, begW, h3, h1, hz], h0, h1, rfl⟩))
    · exact .inr (.inl ⟨by simp [stP, begW, h1], h0, decide_eq_false h1⟩)
theorem words_far {G B c : Nat} {A : Option Addr} {ok : Nat → Prop} {w1 W : World} {ws : List ByteArray} (h : Kd.R Kd.string 9 w1 B ok (.slice A ws.length c) ws) (hG : G < B) (hk : KeepBut w1 W G none) : Kd.C Kd.string W A ws.length ws :=
  Kd.C_keep ByteArray.empty (Kd.R_reads' h).2.2 hk (Kd.far_own h (fun e => by have := own_base (Kd.R_own h).choose_spec G e.symm; omega))
set_option maxHeartbeats 2000000 in
set_option maxRecDepth 100000 in
theorem impl_Trie_standing.calls (A0_0 : Option Addr) (c0_0 : Nat) (l0_0 : List IN) (a1 : ByteArray) (r : List (List Int)) (w : World) (hr0_0 : Kd.C k83 w A0_0 l0_0.length l0_0) (hc0_0 : l0_0.length ≤ c0_0) (h : impl_Trie_standing.f l0_0 a1 = some r) :
    Calls Tryz.prog 49 #[.agg #[.slice A0_0 l0_0.length c0_0], .string a1] w fun e w' => ∃ v0_ : Value, e = .returned v0_ ∧ Kd.S (Kd.slice 3 (Kd.int .i64)) 38 w' w.heap.size (fun _ => True) v0_ r ∧ Below w.heap.size w w' := by
  unfold impl_Trie_standing.f at h
  rcases trie_split l0_0 with ht0 | ⟨ws, hva, rfl, ht0, hwa⟩
  · rw [ht0] at h; simp at h
  rw [ht0, hwa, Bool.true_and] at h
  by_cases hp : a1.size ≤ 60
  case neg => simp [hp] at h
  simp only [hp, decide_true, if_true] at h
  obtain rfl := Option.some.inj h
  clear h ht0 hwa
  obtain ⟨k2, hk2⟩ := (implWords hva).ex
  have HK2 := Aside0.mk hk2
  have h40 := hva.len
  have HR0 := Aside0.mk hr0_0
  have HC0 := Aside0.mk hc0_0
  have hmk := makeS a1.size hp
  have HX := Aside0.mk (box_one w (.slice A0_0 (trieW ws).length c0_0) 31)
  have HS0 := Aside0.mk (std_start (w.alloc (.cells #[.slice A0_0 (trieW ws).length c0_0] 31)) ws a1 (a1.size + 1))
  have HB0 := Aside0.mk ((Below.refl w.heap.size w).alloc (Nat.le_refl _) (.cells #[.slice A0_0 (trieW ws).length c0_0] 31))
  clear hva hk2 hr0_0 hc0_0
  go_enter Tryz.func49, Tryz.ntmps49
  go_wp2
  clear hmk
  go_loopw [15] (fun i wr => ∃ (n : Nat) (cs : List Value), n ≤ a1.size + 1 ∧ i = .int .i64 n ∧ Aside0 (Std (w.heap.size + 1) (a1.size + 1) ws a1 wr cs n) ∧ Aside0 (Below (w.heap.size + 1) (w.alloc (.cells #[.slice A0_0 (trieW ws).length c0_0] 31)) wr)) (fun i _ => a1.size + 1 - (intOf i).toNat)
  case atStart => exact ⟨0, _, Nat.zero_le _, rfl, ⟨by simpa using HS0.out⟩, ⟨(Below.refl _ _).alloc (by simp) _⟩⟩
  case round =>
    clear HS0
    obtain ⟨n, cs, hn, rfl, HS, HQ⟩ := hrel
    by_cases hlt : n < a1.size + 1
    · have hx := box_at (HX.out wr HQ.out)
      have hQs : w.heap.size + 1 ≤ wr.heap.size := bsz1 HQ.out
      go_wp2_with (go_at_call 73; refine (impl_Trie_words.calls k2 A0_0 c0_0 _ ws wr (Kd.C_below HR0.out (HB0.out.trans (HQ.out.mono (by omega)))) HC0.out HK2.out).mono ?_; rintro e w1 ⟨v1, rfl, hr, hb⟩; obtain ⟨A1, c1, rfl⟩ := Kd.R_slice hr; have HR1 := Aside0.mk hr; have HS1 := Aside0.mk (HS.out.move hb); have HQ1 := Aside0.mk (HQ.out.trans (hb.mono (by omega))); have HW1 := Aside0.mk hb.size; clear hr hb)
      have hGs : w.heap.size + 1 < wr.heap.size := lt_of_heap HS.out.box
      go_loopw [21] (fun i wr2 => ∃ (k : Nat) (v : Value), k ≤ ws.length ∧ i = .int .i64 k ∧ Aside0 (Rnd (w.heap.size + 1) n w1 cs wr2 v (rowS (ws.take k) (a1.extract n a1.size))) ∧ Aside0 (Below (w.heap.size + 1) (w.alloc (.cells #[.slice A0_0 (trieW ws).length c0_0] 31)) wr2)) (fun i _ => ws.length - (intOf i).toNat)
      case atStart => exact ⟨0, _, Nat.zero_le _, rfl, ⟨Rnd.start HS1.out hlt⟩, HQ1⟩
      case round =>
        obtain ⟨k, v, hk, rfl, HRd, HQ2⟩ := hrel
        by_cases hlt2 : k < ws.length
        · obtain ⟨ad, e0, hx1⟩ := Kd.at_string (words_far HR1.out hGs HRd.out.keep) (k : Int) (by omega) (by omega)
          cases e0
          simp only [Int.toNat_natCast] at hx1
          have hnext := rowS_take ws (a1.extract n a1.size) k hlt2
          obtain ⟨wd, hwd⟩ : ∃ wd, wd = rdOf ByteArray.empty ws (k : Int) := ⟨_, rfl⟩
          rw [← hwd] at hx1 hnext
          clear hwd
          have HN := Aside0.mk hnext
          clear hnext
          have hes : (a1.extract n a1.size).size = a1.size - n := by rw [ByteArray.size_extract]; omega
          rcases st_cases (a1.extract n a1.size) wd with ⟨hst, h0⟩ | ⟨hst, h0, h1⟩ | ⟨hst, h0, h1, h2⟩ | ⟨hst, h0, h1, h2⟩
          · rw [hst] at HN
            clear hst
            go_wp2
            exact ⟨⟨k + 1, v, by omega, by go_num, ⟨by rw [HN.out]; simpa using HRd.out⟩, HQ2⟩, by simp [intOf]; omega⟩
          · rw [hst] at HN
            rw [hes] at h1
            clear hst hes
            go_wp2
            exact ⟨⟨k + 1, v, by omega, by go_num, ⟨by rw [HN.out]; simpa using HRd.out⟩, HQ2⟩, by simp [intOf]; omega⟩
          · rw [hst] at HN
            rw [hes] at h1
            clear hes
            have h3 : (!wd.toList.isEmpty && ((a1.extract n a1.size).extract 0 wd.size).toList == wd.toList) = false := by rw [h2, Bool.and_false]
            clear hst h2
            go_wp2
            exact ⟨⟨k + 1, v, by omega, by go_num, ⟨by rw [HN.out]; simpa using HRd.out⟩, HQ2⟩, by simp [intOf]; omega⟩
          · rw [hst] at HN
            rw [hes] at h1
            clear hes
            have h3 := beq_iff_eq.1 h2
            have h4 : (!wd.toList.isEmpty) = true := by simpa using h0
            have h5 : wd.size ≤ (a1.extract n a1.size).size := by rw [ByteArray.size_extract]; omega
            clear hst h2
            have hcl : n < cs.length := by have := HS1.out.len; omega
            obtain ⟨Av, cv, rfl⟩ := Kd.R_slice HRd.out.row
            obtain ⟨hgc, hgf⟩ := box_n HRd.out.box hcl
            have hrl := rowS_length (ws.take k) (a1.extract n a1.size)
            rw [List.length_take] at hrl
            go_wp2_with (first | (go_at_call 74; refine (hasPrefix_calls _ _ h5 h3 _).mono ?_; rintro e w2 ⟨rfl, rfl⟩) | (at_builtin; refine Kd.R_append (Kd.int .i64) (w0 := wr) w1.heap.size rfl _ _ 38 3 (.int .i64 0) 8 rfl Tryz.underlying38 (by kernel_rfl) rfl (by decide) (by omega) (.slice Av (rowS (ws.take k) (a1.extract n a1.size)).length cv) (rowS (ws.take k) (a1.extract n a1.size)) (wd.size : Int) [.int .i64 wd.size] (fun _ => True) (fun _ => False) rfl ?aX rfl (fun _ hk => hk.elim) (fun _ _ => trivial) HRd.out.row (Below.refl _ _) HRd.out.keep.1 ?aL ?_; (case aX => simp [Act.eval]); (case aL => omega); intro v1 wx hRx hBelx hgx hatx; have HRX := Aside0.mk hRx; have HBX := Aside0.mk hBelx; have hcx := box_n ((hBelx.block _ (lt_of_heap HS1.out.box)).trans HRd.out.box) hcl; have hcx1 := hcx.1; have hcx2 := hcx.2; obtain ⟨Ax, cx, ex⟩ := Kd.R_slice hRx; subst ex; clear hRx hBelx hgx hatx hcx))
            have hw1s := HQ1.out.size
            rw [show (rowS (ws.take k) (a1.extract n a1.size) ++ [(wd.size : Int)]).length = (rowS (ws.take k) (a1.extract n a1.size)).length + 1 by simp] at HRX
            exact ⟨⟨k + 1, _, by omega, by go_num, ⟨by rw [HN.out, if_pos trivial]; exact Rnd.snoc hcl (lt_of_heap HS1.out.box) HRd.out HRX.out HBX.out⟩, ⟨(HQ2.out.trans (HBX.out.mono (by have := lt_of_heap HS1.out.box; omega))).setCell (by simp) _⟩⟩, by simp [intOf]; omega⟩
        · obtain rfl : k = ws.length := by omega
          rw [List.take_length] at HRd
          have hcl : n < cs.length := by have := HS1.out.len; omega
          obtain ⟨Av, cv, rfl⟩ := Kd.R_slice HRd.out.row
          obtain ⟨hgc, hgf⟩ := box_n HRd.out.box hcl
          have hrl := rowS_length ws (a1.extract n a1.size)
          have HSI := Aside0.mk (sort_ints (.slice Av (rowS ws (a1.extract n a1.size)).length cv) _ _ _ wr HRd.out.row (by omega))
          clear hrl
          go_wp2_with (go_at_call 75; refine HSI.out.mono ?_; rintro e w3 ⟨rfl, hR3, hg3⟩; have HR3 := Aside0.mk hR3; have HG3 := Aside0.mk hg3; clear hR3 hg3)
          exact ⟨⟨n + 1, _, by omega, by go_num, ⟨Std.next HS1.out HRd.out hlt HR3.out HG3.out⟩, ⟨HQ2.out.grown HG3.out (bsz1 HQ2.out) (fun g e => by have := own_base (Kd.R_own HR3.out).choose_spec g e; have := HQ1.out.size; have := lt_of_heap HS1.out.box; omega)⟩⟩, by simp [intOf]; omega⟩
    · obtain rfl : n = a1.size + 1 := by omega
      go_wp2
      go_ret
      exact ⟨_, rfl, Std.all HS.out (by omega) hp, HB0.out.trans (HQ.out.mono (by omega))⟩
end Go.Proofs.YtcgcicngfemnlaaGreatDoor.Q
namespace Go.Proofs.YtcgcicngfemnlaaGreatDoor.Q
open Go.RowKit Go.Proofs.YtcgcicngfemnlaaGreatDoorW.PrintWords Go.Proofs.YtcgcicngfemnlaaGreatDoorW.PrintLast
theorem srtI_perm (zs : List Int) : (srtI zs).Perm zs := List.mergeSort_perm zs _
theorem st_size {s x : ByteArray} (h : stP s x = true) : x.size ≤ s.size ∧ (s.extract 0 x.size).toList = x.toList ∧ x.size ≠ 0 := by
  simp only [stP, begW, Bool.and_eq_true, decide_eq_true_eq] at h
  exact ⟨h.2.1, h.2.2, h.1⟩
theorem rdI_nat (l : List Int) {i : Nat} (h : i < l.length) : rd l (i : Int) = l[i] := by simp [rd, h]
theorem rowAt_length {ws : List ByteArray} (hv : VW ws) (p : ByteArray) (a : Nat) : (rowAt ws p a).length ≤ 40 := by
  unfold rowAt
  rw [srtI_length]
  exact Nat.le_trans (rowS_length _ _) hv.len
theorem rowAt_mem {ws : List ByteArray} {p : ByteArray} {a : Nat} {n : Int} (h : n ∈ rowAt ws p a) : 1 ≤ n ∧ n + a ≤ p.size := by
  obtain ⟨x, hx, rfl⟩ := List.mem_map.1 ((srtI_perm _).mem_iff.1 h)
  obtain ⟨h1, h2, h3⟩ := st_size (List.mem_filter.1 hx).2
  rw [ByteArray.size_extract] at h1
  omega
theorem standW_length (ws : List ByteArray) (p : ByteArray) : (standW ws p).length = p.size + 1 := by simp [standW]
theorem stand_at (ws : List ByteArray) (p : ByteArray) (a : Nat) (h : a ≤ p.size) : rd_L9 (standW ws p) (a : Int) = rowAt ws p a := by
  simp [rd_L9, standW, Nat.lt_succ_of_le h]
end Go.Proofs.YtcgcicngfemnlaaGreatDoor.Q
namespace Go.Proofs.YtcgcicngfemnlaaGreatDoor.Q
open Go.RowKit Go.Sort Go.Shelf Go.Proofs.YtcgcicngfemnlaaGreatDoorW.PrintWords Go.Proofs.YtcgcicngfemnlaaGreatDoorW.PrintLast Go.Proofs.YtcgcicngfemnlaaGreatDoorW.PrintMore
set_option linter.unusedVariables false
def splitN (a : Nat) (mb : List Int × List Int) (n : Int) : List Int × List Int :=
  if rd mb.1 ((a : Int) + n) = 0 then mb
  else (mb.1.set a (wrap64 (rd mb.1 (a : Int) + rd mb.1 ((a : Int) + n))),
    if rd mb.1 (a : Int) = 0 ∨ wrap64 (rd mb.2 ((a : Int) + n) + 1) < rd mb.2 (a : Int) then mb.2.set a (wrap64 (rd mb.2 ((a : Int) + n) + 1)) else mb.2)
def splitsF (ws : List ByteArray) (p : ByteArray) : Nat → List Int × List Int → List Int × List Int
  | 0, mb => mb
  | a + 1, mb => splitsF ws p a ((rowAt ws p a).foldl (splitN a) mb)
def splits0 (p : ByteArray) : List Int × List Int := ((List.replicate (p.size + 1) 0).set p.size 1, List.replicate (p.size + 1) 0)
def splitsW (ws : List ByteArray) (p : ByteArray) : List Int × List Int := splitsF ws p p.size (splits0 p)
theorem splitN_len (a : Nat) (mb : List Int × List Int) (n : Int) : (splitN a mb n).1.length = mb.1.length ∧ (splitN a mb n).2.length = mb.2.length := by
  unfold splitN
  split
  · exact ⟨rfl, rfl⟩
  · refine ⟨by simp, ?_⟩
    simp only
    split <;> simp
theorem foldN_len (a : Nat) : ∀ (row : List Int) (mb : List Int × List Int), (row.foldl (splitN a) mb).1.length = mb.1.length ∧ (row.foldl (splitN a) mb).2.length = mb.2.length
  | [], mb => ⟨rfl, rfl⟩
  | n :: t, mb => by
    have h := splitN_len a mb n
    have ih := foldN_len a t (splitN a mb n)
    exact ⟨ih.1.trans h.1, ih.2.trans h.2⟩
theorem fold_take (a : Nat) (row : List Int) (mb : List Int × List Int) (k : Nat) (h : k < row.length) : (row.take (k + 1)).foldl (splitN a) mb = splitN a ((row.take k).foldl (splitN a) mb) row[k] := by
  rw [List.take_succ_eq_append_getElem h, List.foldl_append]
  rfl
structure Two (w1 W : World) (gm gb L : Nat) (mb : List Int × List Int) : Prop where
  below : Below w1.heap.size w1 W
  many : W.heap[gm]? = some (.cells (nums .i64 mb.1).toArray 3 (0, 0))
  best : W.heap[gb]? = some (.cells (nums .i64 mb.2).toArray 3 (0, 0))
  lm : mb.1.length = L
  lb : mb.2.length = L
  ne : gm ≠ gb
  gem : w1.heap.size ≤ gm
  geb : w1.heap.size ≤ gb
theorem row_cell {W : World} {g : Nat} {m : List Int} (h : W.heap[g]? = some (.cells (nums .i64 m).toArray 3 (0, 0))) (j : Nat) (hj : j < m.length) : W.cell? ⟨g, j, none⟩ = some (.int .i64 (rd m (j : Int))) ∧ W.frozen? ⟨g, j, none⟩ = false := by
  refine ⟨?_, by simp [World.frozen?, h]⟩
  rw [rdI_nat m hj]
  simp [World.cell?, h, nums, hj]
theorem row_put {W : World} {g : Nat} {m : List Int} (h : W.heap[g]? = some (.cells (nums .i64 m).toArray 3 (0, 0))) (j : Nat) (x : Int) : (W.setCell ⟨g, j, none⟩ (.int .i64 x)).heap[g]? = some (.cells (nums .i64 (m.set j x)).toArray 3 (0, 0)) :=
  blk_put h j _ (by simp [nums, List.map_set])
theorem Two.setMany {w1 W : World} {gm gb L : Nat} {m b : List Int} (h : Two w1 W gm gb L (m, b)) (j : Nat) (x : Int) : Two w1 (W.setCell ⟨gm, j, none⟩ (.int .i64 x)) gm gb L (m.set j x, b) :=
  ⟨h.below.setCell h.gem _, row_put h.many j x, by rw [Below.heap_setCell _ _ _ _ (fun e => h.ne e.symm)]; exact h.best, by simpa using h.lm, h.lb, h.ne, h.gem, h.geb⟩
theorem Two.setBest {w1 W : World} {gm gb L : Nat} {m b : List Int} (h : Two w1 W gm gb L (m, b)) (j : Nat) (x : Int) : Two w1 (W.setCell ⟨gb, j, none⟩ (.int .i64 x)) gm gb L (m, b.set j x) :=
  ⟨h.below.setCell h.geb _, by rw [Below.heap_setCell _ _ _ _ h.ne]; exact h.many, row_put h.best j x, h.lm, by simpa using h.lb, h.ne, h.gem, h.geb⟩
theorem made_nums (n : Nat) : madeCells #[Value.int .i64 0] n = (nums .i64 (List.replicate n 0)).toArray := by
  apply Array.ext
  · simp [size_madeCells, nums]
  · intro i h1 h2
    simp [madeCells, nums, Nat.mod_one]
theorem made_two (w1 : World) (n : Nat) : ((w1.alloc (.cells (madeCells #[.int .i64 0] n) 3)).alloc (.cells (madeCells #[.int .i64 0] n) 3)).heap[w1.heap.size]? = some (.cells (nums .i64 (List.replicate n 0)).toArray 3 (0, 0)) ∧ ((w1.alloc (.cells (madeCells #[.int .i64 0] n) 3)).alloc (.cells (madeCells #[.int .i64 0] n) 3)).heap[w1.heap.size + 1]? = some (.cells (nums .i64 (List.replicate n 0)).toArray 3 (0, 0)) := by
  have h := World.alloc_heap_new (w1.alloc (.cells (madeCells #[.int .i64 0] n) 3)) (.cells (madeCells #[.int .i64 0] n) 3)
  rw [World.size_alloc] at h
  refine ⟨?_, by rw [← made_nums]; exact h⟩
  rw [((Below.refl (w1.heap.size + 1) (w1.alloc (.cells (madeCells #[.int .i64 0] n) 3))).alloc (by simp) (.cells (madeCells #[.int .i64 0] n) 3)).block _ (by omega), ← made_nums]
  exact World.alloc_heap_new w1 _
theorem Two.start1 (w1 : World) (n : Nat) : Two w1 ((w1.alloc (.cells (madeCells #[.int .i64 0] n) 3)).alloc (.cells (madeCells #[.int .i64 0] n) 3)) w1.heap.size (w1.heap.size + 1) n (List.replicate n 0, List.replicate n 0) :=
  ⟨((Below.refl w1.heap.size w1).alloc (Nat.le_refl _) _).alloc (by simp) _, (made_two w1 n).1, (made_two w1 n).2, by simp, by simp, by omega, Nat.le_refl _, by omega⟩
theorem Two.start2 (w1 : World) (n : Nat) : Two w1 ((w1.alloc (.cells (madeCells #[.int .i64 0] n) 3)).alloc (.cells (madeCells #[.int .i64 0] n) 3)) (w1.heap.size + 1) w1.heap.size n (List.replicate n 0, List.replicate n 0) :=
  ⟨((Below.refl w1.heap.size w1).alloc (Nat.le_refl _) _).alloc (by simp) _, (made_two w1 n).2, (made_two w1 n).1, by simp, by simp, by omega, by omega, Nat.le_refl _⟩
theorem Two.drew {w1 W : World} {gm gb L : Nat} {mb : List Int × List Int} (h : Two w1 W gm gb L mb) : Two w1 W.drew gm gb L mb := ⟨h.below.drew, h.many, h.best, h.lm, h.lb, h.ne, h.gem, h.geb⟩
theorem own_nums {W : World} {g base n : Nat} {m : List Int} {ok : Nat → Prop} (h : W.heap[g]? = some (.cells (nums .i64 m).toArray 3 (0, 0))) (hb : base ≤ g) (hn : m.length = n) (hs : n ≤ 1000) (hok : ok g) : Kd.R (Kd.int .i64) 3 W base ok (.slice (some ⟨g, 0, none⟩) n n) m := by
  subst hn
  refine Kd.R_of_own ⟨by simp [encs], .inr ⟨g, m.length, _, rfl, hb, h, Nat.le_refl _, by unfold maxLen; omega, by simp [nums], by rw [Nat.mul_one]; exact List.take_of_length_le (by simp [nums])⟩⟩ (fun k hk => ?_)
  have e : g = k := by simpa [Value.ownBlock] using hk
  exact e ▸ hok
theorem by_key {G P : Prop} (h : G → P) (g : G) : P := h g
def impl_Trie_splits.f (l0_0 : List IN) (a1 : ByteArray) : Option (List Int × List Int) := if isTrieW l0_0 && decide (a1.size ≤ 60) then some (splitsW (wordsV l0_0) a1) else none
theorem makeI (n : Nat) (hn : n ≤ 60) : ∀ W : World, (Instr.makeSlice 38 (.int .i64 ((n : Int) + 1)) (.int .i64 ((n : Int) + 1))).run Tryz.prog W = .ok (.slice (some ⟨W.heap.size, 0, none⟩) (n + 1) (n + 1)) (W.alloc (.cells (madeCells #[.int .i64 0] (n + 1)) 3)) := fun W => by
  have h := print_make_of (P := Tryz.prog) 38 3 (.int .i64 0) 8 Tryz.underlying38 (by kernel_rfl) rfl (by decide) (n + 1) (by omega) W
  rwa [Int.natCast_add] at h
set_option maxHeartbeats 2000000 in
set_option maxRecDepth 100000 in
theorem impl_Trie_splits.calls (A0_0 : Option Addr) (c0_0 : Nat) (l0_0 : List IN) (a1 : ByteArray) (r1 r2 : List Int) (w : World) (hr0_0 : Kd.C k83 w A0_0 l0_0.length l0_0) (hc0_0 : l0_0.length ≤ c0_0) (h : impl_Trie_splits.f l0_0 a1 = some (r1, r2)) :
    Calls Tryz.prog 54 #[.agg #[.slice A0_0 l0_0.length c0_0], .string a1] w fun e w' => ∃ v0_ v1_ : Value, e = .returned (.tuple #[v0_, v1_]) ∧ Kd.R (Kd.int .i64) 3 w' w.heap.size (fun k_ => some k_ ≠ (v1_ : Value).ownBlock) v0_ r1 ∧ Kd.R (Kd.int .i64) 3 w' w.heap.size (fun k_ => some k_ ≠ (v0_ : Value).ownBlock) v1_ r2 ∧ Below w.heap.size w w' := by
  unfold impl_Trie_splits.f at h
  rcases trie_split l0_0 with ht0 | ⟨ws, hva, rfl, ht0, hwa⟩
  · rw [ht0] at h; simp at h
  by_cases hp : a1.size ≤ 60
  case neg => simp [hp] at h
  have hsf : impl_Trie_standing.f (trieW ws) a1 = some (standW ws a1) := by unfold impl_Trie_standing.f; rw [ht0, hwa]; simp [hp]
  rw [ht0, hwa, Bool.true_and] at h
  simp only [hp, decide_true, if_true] at h
  have h := Option.some.inj h
  have HE := Aside0.mk h
  clear h ht0 hwa
  have HR0 := Aside0.mk hr0_0
  have HC0 := Aside0.mk hc0_0
  have HSF := Aside0.mk hsf
  have hmk := makeI a1.size hp
  have hwr : IntKind.i64.wrap ((a1.size : Int) + 1) = (a1.size : Int) + 1 := by rw [i64_w]; unfold wrap64; omega
  have HX := Aside0.mk (box_one w (.slice A0_0 (trieW ws).length c0_0) 31)
  have HB0 := Aside0.mk ((Below.refl w.heap.size w).alloc (Nat.le_refl _) (.cells #[.slice A0_0 (trieW ws).length c0_0] 31))
  have hsl := standW_length ws a1
  have hrl : ∀ j, (rowAt ws a1 j).length ≤ 40 := fun j => rowAt_length hva a1 j
  have HRL := Aside0.mk hrl
  clear hrl hva hr0_0 hc0_0 hsf
  go_enter Tryz.func54, Tryz.ntmps54
  go_wp2_with (go_at_call 49; refine (impl_Trie_standing.calls A0_0 c0_0 _ a1 _ _ (Kd.C_below HR0.out HB0.out) HC0.out HSF.out).mono ?_; rintro e w1 ⟨v1, rfl, hr, hb⟩; obtain ⟨A1, c1, rfl⟩ := Kd.S_slice hr; have HS1 := Aside0.mk hr; have HB1 := Aside0.mk (show Below (w.heap.size + 1) _ w1 by simpa using hb); clear hr hb)
  apply by_key
  · intro key
    go_region_held3 (fun _ => True) (trivial) (fail)
    · obtain ⟨gm, gb, hgm, hgb, HT⟩ : ∃ gm gb, gm = w1.heap.size ∧ gb = w1.heap.size + 1 ∧ Aside0 (Two w1 ((w1.alloc (.cells (madeCells #[.int .i64 0] (a1.size + 1)) 3)).alloc (.cells (madeCells #[.int .i64 0] (a1.size + 1)) 3)).drew gm gb (a1.size + 1) (List.replicate (a1.size + 1) 0, List.replicate (a1.size + 1) 0)) := ⟨_, _, rfl, rfl, ⟨(Two.start1 w1 (a1.size + 1)).drew⟩⟩
      rw [← hgb, ← hgm]
      clear hgm hgb
      generalize ((w1.alloc (.cells (madeCells #[.int .i64 0] (a1.size + 1)) 3)).alloc (.cells (madeCells #[.int .i64 0] (a1.size + 1)) 3)).drew = W0 at HT ⊢
      revert gm gb W0 HT
      exact key
    · obtain ⟨gm, gb, hgm, hgb, HT⟩ : ∃ gm gb, gm = w1.heap.size + 1 ∧ gb = w1.heap.size ∧ Aside0 (Two w1 ((w1.alloc (.cells (madeCells #[.int .i64 0] (a1.size + 1)) 3)).alloc (.cells (madeCells #[.int .i64 0] (a1.size + 1)) 3)).drew gm gb (a1.size + 1) (List.replicate (a1.size + 1) 0, List.replicate (a1.size + 1) 0)) := ⟨_, _, rfl, rfl, ⟨(Two.start2 w1 (a1.size + 1)).drew⟩⟩
      rw [← hgm, ← hgb]
      clear hgm hgb
      generalize ((w1.alloc (.cells (madeCells #[.int .i64 0] (a1.size + 1)) 3)).alloc (.cells (madeCells #[.int .i64 0] (a1.size + 1)) 3)).drew = W0 at HT ⊢
      revert gm gb W0 HT
      exact key
  intro gm gb W0 HT
  obtain ⟨hc1, hf1⟩ := row_cell HT.out.many a1.size (by have := HT.out.lm; omega)
  have HT1 := Aside0.mk (HT.out.setMany a1.size 1)
  clear hmk hwr
  go_wp2
  clear hc1 hf1
  go_loopw [9] (fun v wr => ∃ (a : Nat) (m b : List Int), a ≤ a1.size ∧ v = .int .i64 ((a : Int) - 1) ∧ Aside0 (Two w1 wr gm gb (a1.size + 1) (m, b)) ∧ Aside0 (splitsF ws a1 a (m, b) = splitsW ws a1)) (fun v _ => (intOf v + 1).toNat)
  case atStart => exact ⟨a1.size, _, _, Nat.le_refl _, rfl, HT1, ⟨rfl⟩⟩
  case round =>
    clear HT HT1
    obtain ⟨a, m, b, ha, rfl, HT, HF⟩ := hrel
    cases a with
    | zero =>
      go_wp2
      go_ret2
      have hE := HF.out.trans HE.out
      injection hE with hE1 hE2
      subst hE1; subst hE2
      have h0 := HT.out.gem
      have h1 := HT.out.geb
      have h2 := HB1.out.size
      rw [World.size_alloc] at h2
      exact ⟨_, _, rfl, own_nums HT.out.many (by omega) HT.out.lm (by omega) (fun e => HT.out.ne (by simpa [Value.ownBlock] using e)), own_nums HT.out.best (by omega) HT.out.lb (by omega) (fun e => HT.out.ne (by simpa [Value.ownBlock] using e.symm)), HB0.out.trans ((HB1.out.mono (by omega)).trans (HT.out.below.mono (by omega)))⟩
    | succ a =>
      have ea : ((a + 1 : Nat) : Int) - 1 = (a : Int) := by omega
      rw [ea]
      obtain ⟨ad, A2, c2, e1, hcell, hle, hC⟩ := at_L9 (Kd.S_reads' HS1.out).2.2 (a : Int) (by omega) (by omega)
      cases e1
      rw [stand_at ws a1 a (by omega)] at hcell hle hC
      simp only [Int.toNat_natCast] at hcell
      have hx := pw_cell_below HT.out.below hcell
      have HC := Aside0.mk hC
      have HF2 : Aside0 (splitsF ws a1 a ((rowAt ws a1 a).foldl (splitN a) (m, b)) = splitsW ws a1) := HF
      clear hcell hC
      go_wp2
      obtain ⟨row, hrow⟩ : ∃ row, row = rowAt ws a1 a := ⟨_, rfl⟩
      rw [← hrow] at HC HF2 hle ⊢
      have hrl : row.length ≤ 40 := hrow ▸ HRL.out a
      have hmem : ∀ n ∈ row, 1 ≤ n ∧ n + a ≤ a1.size := fun n hn => rowAt_mem (hrow ▸ hn)
      have HM := Aside0.mk hmem
      clear hrow hx hmem ea
      have hl1 := HT.out.lm
      have hl2 := HT.out.lb
      go_loopw [39] (fun i wr => ∃ (k : Nat) (m2 b2 : List Int), k ≤ row.length ∧ i = .int .i64 k ∧ Aside0 (Two w1 wr gm gb (a1.size + 1) (m2, b2)) ∧ Aside0 ((m2, b2) = (row.take k).foldl (splitN a) (m, b))) (fun i _ => row.length - (intOf i).toNat)
      case atStart => exact ⟨0, m, b, Nat.zero_le _, rfl, HT, ⟨rfl⟩⟩
      case round =>
        clear HT
        obtain ⟨k, m2, b2, hk, rfl, HT, HG⟩ := hrel
        by_cases hlt : k < row.length
        · obtain ⟨ad2, e2, hy⟩ := Kd.at_int (Kd.C_below HC.out HT.out.below) (k : Int) (by omega) (by omega)
          cases e2
          have hnx := fold_take a row (m, b) k hlt
          rw [← HG.out] at hnx
          have hmk := HM.out _ (List.getElem_mem hlt)
          have hrd := rdI_nat row hlt
          rw [hrd] at hy
          simp only [Int.toNat_natCast] at hy
          obtain ⟨q, hq⟩ : ∃ q : Nat, row[k] = (q : Int) := ⟨row[k].toNat, by omega⟩
          rw [hq] at hy hnx hmk
          clear hq hrd
          have hl3 := HT.out.lm
          have hl4 := HT.out.lb
          simp only at hl3 hl4
          obtain ⟨hc1, hf1⟩ := row_cell HT.out.many (a + q) (by simp only; omega)
          obtain ⟨hc2, hf2⟩ := row_cell HT.out.many a (by simp only; omega)
          obtain ⟨hc3, hf3⟩ := row_cell HT.out.best (a + q) (by simp only; omega)
          obtain ⟨hc4, hf4⟩ := row_cell HT.out.best a (by simp only; omega)
          simp only at hc1 hc2 hc3 hc4
          have hwr : IntKind.i64.wrap ((a : Int) + (q : Int)) = ((a + q : Nat) : Int) := by rw [i64_w]; unfold wrap64; omega
          have HN := Aside0.mk hnx
          clear hnx
          by_cases h0 : rd m2 ((a : Int) + (q : Int)) = 0
          · have h0b := beq_iff_eq.2 h0
            go_wp2
            exact ⟨⟨k + 1, m2, b2, by omega, by go_num, HT, ⟨by rw [HN.out, splitN, if_pos h0]⟩⟩, by simp [intOf]; omega⟩
          · have h0b := beq_eq_false_iff_ne.2 h0
            by_cases h1 : rd m2 (a : Int) = 0
            · have h1b := beq_iff_eq.2 h1
              go_wp2
              go_region
              go_wp2
              have HT5 := Aside0.mk ((HT.out.setBest a (wrap64 (rd b2 ((a : Int) + (q : Int)) + 1))).drew)
              generalize (wr.setCell ⟨gb, a, none⟩ (.int .i64 (wrap64 (rd b2 ((a : Int) + (q : Int)) + 1)))).drew = W5 at HT5 ⊢
              obtain ⟨hd1, he1⟩ := row_cell HT5.out.many (a + q) (by simp only; omega)
              obtain ⟨hd2, he2⟩ := row_cell HT5.out.many a (by simp only; omega)
              simp only at hd1 hd2
              clear hc1 hc2 hc3 hc4 hf1 hf2 hf3 hf4
              have HT6 := Aside0.mk ((HT5.out.setMany a (wrap64 (rd m2 ((a : Int) + (q : Int))))).drew)
              clear HT HT5
              go_region
              go_wp2
              exact ⟨⟨k + 1, _, _, by omega, by go_num, HT6, ⟨by rw [HN.out, splitN, if_neg h0, if_pos (.inl h1)]; simp only; rw [h1, Int.zero_add]⟩⟩, by simp [intOf]; omega⟩
            · have h1b := beq_eq_false_iff_ne.2 h1
              by_cases h2 : wrap64 (rd b2 ((a : Int) + (q : Int)) + 1) < rd b2 (a : Int)
              · have h2b := decide_eq_true h2
                go_wp2
                go_region
                go_wp2
                have HT5 := Aside0.mk ((HT.out.setBest a (wrap64 (rd b2 ((a : Int) + (q : Int)) + 1))).drew)
                generalize (wr.setCell ⟨gb, a, none⟩ (.int .i64 (wrap64 (rd b2 ((a : Int) + (q : Int)) + 1)))).drew = W5 at HT5 ⊢
                obtain ⟨hd1, he1⟩ := row_cell HT5.out.many (a + q) (by simp only; omega)
                obtain ⟨hd2, he2⟩ := row_cell HT5.out.many a (by simp only; omega)
                simp only at hd1 hd2
                clear hc1 hc2 hc3 hc4 hf1 hf2 hf3 hf4
                have HT6 := Aside0.mk ((HT5.out.setMany a (wrap64 (rd m2 (a : Int) + rd m2 ((a : Int) + (q : Int))))).drew)
                clear HT HT5
                go_region
                go_wp2
                exact ⟨⟨k + 1, _, _, by omega, by go_num, HT6, ⟨by rw [HN.out, splitN, if_neg h0, if_pos (.inr h2)]⟩⟩, by simp [intOf]; omega⟩
              · have h2b := decide_eq_false h2
                go_wp2
                go_region
                go_wp2
                have HT5 := Aside0.mk HT.out.drew
                generalize wr.drew = W5 at HT5 ⊢
                obtain ⟨hd1, he1⟩ := row_cell HT5.out.many (a + q) (by simp only; omega)
                obtain ⟨hd2, he2⟩ := row_cell HT5.out.many a (by simp only; omega)
                simp only at hd1 hd2
                clear hc1 hc2 hc3 hc4 hf1 hf2 hf3 hf4
                have HT6 := Aside0.mk ((HT5.out.setMany a (wrap64 (rd m2 (a : Int) + rd m2 ((a : Int) + (q : Int))))).drew)
                clear HT HT5
                go_region
                go_wp2
                exact ⟨⟨k + 1, _, _, by omega, by go_num, HT6, ⟨by rw [HN.out, splitN, if_neg h0, if_neg (fun h => h.elim h1 (fun h' => Int.not_lt.2 h2 h'))]⟩⟩, by simp [intOf]; omega⟩
        · obtain rfl : k = row.length := by omega
          rw [List.take_length] at HG
          go_wp2
          exact ⟨⟨a, m2, b2, by omega, by go_num, HT, ⟨by rw [HG.out]; exact HF2.out⟩⟩, by simp [intOf]⟩
end Go.Proofs.YtcgcicngfemnlaaGreatDoor.Q
namespace Go.Proofs.YtcgcicngfemnlaaGreatDoor.Q
open Go.RowKit Go.Proofs.YtcgcicngfemnlaaGreatDoorW.PrintWords Go.Proofs.YtcgcicngfemnlaaGreatDoorW.PrintLast Go.Proofs.YtcgcicngfemnlaaGreatDoorW.PrintMore
attribute [local go_sem] run_field_23 run_field_24 run_field_30 run_field_31 isSome_setCell max2_int min2_int max_two min_two max_three min_three max_four min_four   -- for this text's walks alone
set_option linter.unusedVariables false
set_option linter.unusedSimpArgs false
def impl_CountSplits.f (k : Nat) (l0_0 : List (S83)) (a1 : ByteArray) : Option (Int × Bool) := (impl_arePassage.f k l0_0 a1).bind fun t562 => (if t562 = true then ((impl_Trie_splits.f l0_0 a1).bind fun bt563 => (if 0 < (bt563.1.length : Int) then (some (rd bt563.1 0, true)) else (none))) else (some (0, false)))
set_option maxHeartbeats 8000000 in
set_option maxRecDepth 100000 in
theorem impl_CountSplits.calls (k : Nat) (A0_0 : Option Addr) (c0_0 : Nat) (l0_0 : List (S83)) (a1 : ByteArray) (r1 : Int) (r2 : Bool) (w : World) (hr0_0 : Kd.C k83 w A0_0 l0_0.length l0_0) (hc0_0 : l0_0.length ≤ c0_0) (h : impl_CountSplits.f k l0_0 a1 = some (r1, r2)) :
    Calls Tryz.prog 38 #[.agg #[.slice A0_0 l0_0.length c0_0], .string a1] w fun e w' => e = .returned (.tuple #[.int .i64 r1, .bool r2]) ∧ Below w.heap.size w w' := by
  have hu31 := Tryz.underlying31
  have HR0_0 := Aside0.mk hr0_0
  have HC0_0 := Aside0.mk hc0_0
  clear hr0_0 hc0_0
  have HB := Aside0.mk (Below.refl w.heap.size w)
  have H : ((impl_arePassage.f k l0_0 a1).bind fun t562 => (if t562 = true then ((impl_Trie_splits.f l0_0 a1).bind fun bt563 => (if 0 < (bt563.1.length : Int) then (some (rd bt563.1 0, true)) else (none))) else (some (0, false)))) = some (r1, r2) := h
  clear h
  replace H := Option.bind_eq_some_iff.mp H
  obtain ⟨t562, A30, H⟩ := H
  replace H : (if t562 = true then ((impl_Trie_splits.f l0_0 a1).bind fun bt563 => (if 0 < (bt563.1.length : Int) then (some (rd bt563.1 0, true)) else (none))) else (some (0, false))) = some (r1, r2) := H
  have A3 := Aside0.mk A30
  clear A30
  by_cases c4 : t562 = true
  · subst c4
    have H1 : ((impl_Trie_splits.f l0_0 a1).bind fun bt563 => (if 0 < (bt563.1.length : Int) then (some (rd bt563.1 0, true)) else (none))) = some (r1, r2) := by rw [if_pos rfl] at H; exact H
    clear H
    have H := H1
    clear H1
    replace H := Option.bind_eq_some_iff.mp H
    obtain ⟨⟨t563, t566⟩, A50, H⟩ := H
    replace H : (if 0 < (t563.length : Int) then (some (rd t563 0, true)) else (none)) = some (r1, r2) := H
    have A5 := Aside0.mk A50
    clear A50
    by_cases c6 : 0 < (t563.length : Int)
    · rw [if_pos c6] at H
      have c6b0 : decide (0 < (t563.length : Int)) = true := decide_eq_true c6
      have c6b1 : decide (0 < t563.length) = true := decide_eq_true (by omega)
      clear c6
      simp only [Option.some.injEq, Prod.mk.injEq] at H
      obtain ⟨rfl, rfl⟩ := H
      go_enter Tryz.func38, Tryz.ntmps38
      go_wp2_with (first | ((with_reducible refine gate_dst (N := 2) rfl ?_); refine box_event ?hg (N := 2) ?hd (cs := #[.slice A0_0 l0_0.length c0_0]) (t := 31) ?hr ?_; (case hd => rfl); (case hg => rfl); (case hr => first | (go_simp; done) | (go_simp; rfl)); intro gb561 hg w7 hbox hb; have n0_ := Aside0.mk (below_step (by repeat (first | (with_reducible first | exact HB.out | apply below_alloc | apply pw_below_drewN | apply below_drew1) | exact HB.out)) hb); have n1_ := Aside0.mk (hbox); have n2_ := Aside0.mk ((by rw [hg]; exact (below_size (by repeat (first | (with_reducible first | exact HB.out | apply below_alloc | apply pw_below_drewN | apply below_drew1) | exact HB.out))) : w.heap.size ≤ gb561)); have n3_ := Aside0.mk ((by rw [hg]; exact (below_size (by repeat (first | (with_reducible first | exact HB.out | apply below_alloc | apply pw_below_drewN | apply below_drew1) | exact HB.out))) : w.heap.size ≤ gb561)); clear HB; have HB := n0_; have BK561 := n1_; have GW561 := n2_; have GE561 := n3_; clear n0_ n1_ n2_ n3_; clear hb hbox hg; have hcz8_0 : w7.cell? ⟨gb561, 0, none⟩ = some (.slice A0_0 l0_0.length c0_0) := (blk_cell BK561.out 0).trans rfl; have hfz8_0 := blk_frozen BK561.out 0) | ((with_reducible refine gate_callee (f := 48) rfl ?_); refine goesL_ (some 10) rfl rfl Tryz.func48 (by kernel_rfl) rfl #[.agg #[.slice A0_0 l0_0.length c0_0], .string a1] rfl (by (try simp only [List.map_toArray, List.map_cons, List.map_nil]); first | done | rfl | (simp only [List.length_drop, List.length_take]; rfl)) ?_; (with_reducible refine (impl_arePassage.calls k _ _ l0_0 a1 true _ ?side1 ?side2 A3.out).mono ?_); (case side1 => repeat (first | exact (Kd.C_below HR0_0.out HB.out) | (with_reducible refine Kd.C_alloc ?_ _) | (with_reducible refine Kd.C_drewN ?_ _) | (with_reducible refine Kd.C_drew ?_))); (case side2 => exact HC0_0.out); rintro e w9 ⟨rfl, hb⟩; refine ⟨_, rfl, ?_⟩; have n0_ := Aside0.mk (blk_below (g := gb561) (o := .cells #[.slice A0_0 l0_0.length c0_0] 31 (0, 0)) (by (with_reducible repeat (first | refine blk_drewN ?_ _ | refine blk_drew ?_ | refine blk_alloc ?_ _)); exact BK561.out) hb); have n1_ := Aside0.mk (below_step (by repeat (first | (with_reducible first | exact HB.out | apply below_alloc | apply pw_below_drewN | apply below_drew1 | refine below_set ?_ GE561.out) | exact HB.out)) hb); clear BK561; clear HB; have BK561 := n0_; have HB := n1_; clear n0_ n1_; (try clear hb); (try clear hb2); (try clear hk); (try clear hi); have hcz10_0 : w9.cell? ⟨gb561, 0, none⟩ = some (.slice A0_0 l0_0.length c0_0) := (blk_cell BK561.out 0).trans rfl; have hfz10_0 := blk_frozen BK561.out 0) | ((with_reducible refine gate_callee (f := 54) rfl ?_); refine goesL_ (some 15) rfl rfl Tryz.func54 (by kernel_rfl) rfl #[.agg #[.slice A0_0 l0_0.length c0_0], .string a1] rfl (by (try simp only [List.map_toArray, List.map_cons, List.map_nil]); first | done | rfl | (simp only [List.length_drop, List.length_take]; rfl)) ?_; (with_reducible refine (impl_Trie_splits.calls _ _ l0_0 a1 t563 t566 _ ?side1 ?side2 A5.out).mono ?_); (case side1 => repeat (first | exact (Kd.C_below HR0_0.out HB.out) | (with_reducible refine Kd.C_alloc ?_ _) | (with_reducible refine Kd.C_drewN ?_ _) | (with_reducible refine Kd.C_drew ?_))); (case side2 => exact HC0_0.out); rintro e w11 ⟨v564, v567, rfl, ho0, ho1, hb⟩; refine ⟨_, rfl, ?_⟩; have n0_ := Aside0.mk (Kd.R_lower ho0 (below_size (by repeat (first | (with_reducible first | exact HB.out | apply below_alloc | apply pw_below_drewN | apply below_drew1 | refine below_set ?_ GE561.out) | exact HB.out)))); have n1_ := Aside0.mk (Kd.R_lower ho1 (below_size (by repeat (first | (with_reducible first | exact HB.out | apply below_alloc | apply pw_below_drewN | apply below_drew1 | refine below_set ?_ GE561.out) | exact HB.out)))); have n2_ := Aside0.mk (blk_below (g := gb561) (o := .cells #[.slice A0_0 l0_0.length c0_0] 31 (0, 0)) (by (with_reducible repeat (first | refine blk_drewN ?_ _ | refine blk_drew ?_ | refine blk_alloc ?_ _)); exact BK561.out) hb); have n3_ := Aside0.mk (below_step (by repeat (first | (with_reducible first | exact HB.out | apply below_alloc | apply pw_below_drewN | apply below_drew1 | refine below_set ?_ GE561.out) | exact HB.out)) hb); clear BK561; clear HB; have HO565 := n0_; have HO568 := n1_; have BK561 := n2_; have HB := n3_; clear n0_ n1_ n2_ n3_; (try clear hb); (try clear hb2); (try clear hk); (try clear hi); (try clear ho0); (try clear ho1); obtain ⟨Ao12, co12, eo12⟩ := Kd.R_slice HO565.out; subst eo12; have p569 : 0 ≤ (0 : Int) := (by omega); have q569 : 0 < (t563.length : Int) := of_decide_eq_true (by first | (with_reducible assumption) | assumption); obtain ⟨ad569, e569, hx569_0⟩ := Kd.at_int (Kd.R_reads' HO565.out).2.2 0 p569 q569; cases e569; have qi569 : (0 < t563.length) = True := eq_true (by omega); (try rw [show ((0 : Int)).toNat = 0 from rfl] at hx569_0); (try rw [Addr.add_zero'] at hx569_0); replace p569 := eq_true p569; replace q569 := eq_true q569))
      go_ret2
      exact ⟨by first | rfl | (simp [errW_none, errW_some] <;> rfl) | (simp [*, errW_none, errW_some] <;> rfl), by repeat (first | (with_reducible first | exact HB.out | apply below_alloc | apply pw_below_drewN | apply below_drew1 | refine below_set ?_ GE561.out) | exact HB.out)⟩
    · rw [if_neg c6] at H
      exact absurd H (by simp)
  · replace c4 := Bool.eq_false_iff.mpr c4
    subst c4
    have H1 : (some (0, false)) = some (r1, r2) := by rw [if_neg (show ¬ (false = true) by decide)] at H; exact H
    clear H
    have H := H1
    clear H1
    simp only [Option.some.injEq, Prod.mk.injEq] at H
    obtain ⟨rfl, rfl⟩ := H
    go_enter Tryz.func38, Tryz.ntmps38
    go_wp2_with (first | ((with_reducible refine gate_dst (N := 2) rfl ?_); refine box_event ?hg (N := 2) ?hd (cs := #[.slice A0_0 l0_0.length c0_0]) (t := 31) ?hr ?_; (case hd => rfl); (case hg => rfl); (case hr => first | (go_simp; done) | (go_simp; rfl)); intro gb561 hg w13 hbox hb; have n0_ := Aside0.mk (below_step (by repeat (first | (with_reducible first | exact HB.out | apply below_alloc | apply pw_below_drewN | apply below_drew1) | exact HB.out)) hb); have n1_ := Aside0.mk (hbox); have n2_ := Aside0.mk ((by rw [hg]; exact (below_size (by repeat (first | (with_reducible first | exact HB.out | apply below_alloc | apply pw_below_drewN | apply below_drew1) | exact HB.out))) : w.heap.size ≤ gb561)); have n3_ := Aside0.mk ((by rw [hg]; exact (below_size (by repeat (first | (with_reducible first | exact HB.out | apply below_alloc | apply pw_below_drewN | apply below_drew1) | exact HB.out))) : w.heap.size ≤ gb561)); clear HB; have HB := n0_; have BK561 := n1_; have GW561 := n2_; have GE561 := n3_; clear n0_ n1_ n2_ n3_; clear hb hbox hg; have hcz14_0 : w13.cell? ⟨gb561, 0, none⟩ = some (.slice A0_0 l0_0.length c0_0) := (blk_cell BK561.out 0).trans rfl; have hfz14_0 := blk_frozen BK561.out 0) | ((with_reducible refine gate_callee (f := 48) rfl ?_); refine goesL_ (some 10) rfl rfl Tryz.func48 (by kernel_rfl) rfl #[.agg #[.slice A0_0 l0_0.length c0_0], .string a1] rfl (by (try simp only [List.map_toArray, List.map_cons, List.map_nil]); first | done | rfl | (simp only [List.length_drop, List.length_take]; rfl)) ?_; (with_reducible refine (impl_arePassage.calls k _ _ l0_0 a1 false _ ?side1 ?side2 A3.out).mono ?_); (case side1 => repeat (first | exact (Kd.C_below HR0_0.out HB.out) | (with_reducible refine Kd.C_alloc ?_ _) | (with_reducible refine Kd.C_drewN ?_ _) | (with_reducible refine Kd.C_drew ?_))); (case side2 => exact HC0_0.out); rintro e w15 ⟨rfl, hb⟩; refine ⟨_, rfl, ?_⟩; have n0_ := Aside0.mk (blk_below (g := gb561) (o := .cells #[.slice A0_0 l0_0.length c0_0] 31 (0, 0)) (by (with_reducible repeat (first | refine blk_drewN ?_ _ | refine blk_drew ?_ | refine blk_alloc ?_ _)); exact BK561.out) hb); have n1_ := Aside0.mk (below_step (by repeat (first | (with_reducible first | exact HB.out | apply below_alloc | apply pw_below_drewN | apply below_drew1 | refine below_set ?_ GE561.out) | exact HB.out)) hb); clear BK561; clear HB; have BK561 := n0_; have HB := n1_; clear n0_ n1_; (try clear hb); (try clear hb2); (try clear hk); (try clear hi)))
    go_ret2
    exact ⟨by first | rfl | (simp [errW_none, errW_some] <;> rfl) | (simp [*, errW_none, errW_some] <;> rfl), by repeat (first | (with_reducible first | exact HB.out | apply below_alloc | apply pw_below_drewN | apply below_drew1 | refine below_set ?_ GE561.out) | exact HB.out)⟩
def laws_FnExactCountSplits.j0 : Nat → Bool → List (S88) → List (S83) → Option (Bool)
  | 0, _, _, _ => none
  | k + 1, x41, x571000, x581000 => if x41 = true then (some false) else ((laws_toTrie.f k x571000).bind fun t583 => ((laws_eqTrie.f k x581000 t583).bind fun t586 => (if t586 = true then (some true) else (some false))))
def laws_FnExactCountSplits.f (k : Nat) (l0_0 : List (S88)) (a1 : ByteArray) : Option (Bool) := if (a1.size : Int) > 1048576 then (some true) else ((laws_szTrie.f l0_0 1048576).bind fun t571 => (if t571 < 0 then (some true) else ((laws_toTrie.f k l0_0).bind fun t572 => ((spec_CountSplits.f k t572 a1).bind fun bt575 => ((laws_toTrie.f k l0_0).bind fun t577 => ((impl_CountSplits.f k t577 a1).bind fun bt581 => (if bt581.1 = bt575.1 then (laws_FnExactCountSplits.j0 k (bt581.2 != bt575.2) l0_0 t577) else (laws_FnExactCountSplits.j0 k true l0_0 t577))))))))
set_option maxHeartbeats 8000000 in
set_option maxRecDepth 100000 in
theorem laws_FnExactCountSplits.calls (k : Nat) (A0_0 : Option Addr) (c0_0 : Nat) (l0_0 : List (S88)) (a1 : ByteArray) (r : Bool) (w : World) (hr0_0 : Kd.C k88 w A0_0 l0_0.length l0_0) (hc0_0 : l0_0.length ≤ c0_0) (h : laws_FnExactCountSplits.f k l0_0 a1 = some true) :
    Calls Tryz.prog 9 #[.agg #[.slice A0_0 l0_0.length c0_0], .string a1] w fun e w' => e = .returned (.bool true) ∧ Below w.heap.size w w' := by
  have hu24 := Tryz.underlying24
  have hu31 := Tryz.underlying31
  have HR0_0 := Aside0.mk hr0_0
  have HC0_0 := Aside0.mk hc0_0
  clear hr0_0 hc0_0
  have HB := Aside0.mk (Below.refl w.heap.size w)
  have H : (if (a1.size : Int) > 1048576 then (some true) else ((laws_szTrie.f l0_0 1048576).bind fun t571 => (if t571 < 0 then (some true) else ((laws_toTrie.f k l0_0).bind fun t572 => ((spec_CountSplits.f k t572 a1).bind fun bt575 => ((laws_toTrie.f k l0_0).bind fun t577 => ((impl_CountSplits.f k t577 a1).bind fun bt581 => (if bt581.1 = bt575.1 then (laws_FnExactCountSplits.j0 k (bt581.2 != bt575.2) l0_0 t577) else (laws_FnExactCountSplits.j0 k true l0_0 t577))))))))) = some true := h
  clear h
  by_cases c3 : (a1.size : Int) > 1048576
  · rw [if_pos c3] at H
    have c3b0 : decide (1048576 < (a1.size : Int)) = true := decide_eq_true c3
    have c3b1 : decide (1048576 < a1.size) = true := decide_eq_true (by omega)
    clear c3
    (first | (obtain rfl := Option.some.inj H) | (have hH_ := Option.some.inj H; try simp only [hH_]))
    go_enter Tryz.func9, Tryz.ntmps9
    go_wp2_with (first | ((with_reducible refine gate_dst (N := 2) rfl ?_); refine box_event ?hg (N := 2) ?hd (cs := #[.slice A0_0 l0_0.length c0_0]) (t := 24) ?hr ?_; (case hd => rfl); (case hg => rfl); (case hr => first | (go_simp; done) | (go_simp; rfl)); intro gb570 hg w4 hbox hb; have n0_ := Aside0.mk (below_step (by repeat (first | (with_reducible first | exact HB.out | apply below_alloc | apply pw_below_drewN | apply below_drew1) | exact HB.out)) hb); have n1_ := Aside0.mk (hbox); have n2_ := Aside0.mk ((by rw [hg]; exact (below_size (by repeat (first | (with_reducible first | exact HB.out | apply below_alloc | apply pw_below_drewN | apply below_drew1) | exact HB.out))) : w.heap.size ≤ gb570)); have n3_ := Aside0.mk ((by rw [hg]; exact (below_size (by repeat (first | (with_reducible first | exact HB.out | apply below_alloc | apply pw_below_drewN | apply below_drew1) | exact HB.out))) : w.heap.size ≤ gb570)); clear HB; have HB := n0_; have BK570 := n1_; have GW570 := n2_; have GE570 := n3_; clear n0_ n1_ n2_ n3_; clear hb hbox hg))
    go_ret
    exact ⟨by first | rfl | (simp [errW_none, errW_some] <;> rfl) | (simp [*, errW_none, errW_some] <;> rfl), by repeat (first | (with_reducible first | exact HB.out | apply below_alloc | apply pw_below_drewN | apply below_drew1 | refine below_set ?_ GE570.out) | exact HB.out)⟩
  · rw [if_neg c3] at H
    have c3b0 : decide (1048576 < (a1.size : Int)) = false := decide_eq_false c3
    have c3b1 : decide (1048576 < a1.size) = false := decide_eq_false (by omega)
    clear c3
    replace H := Option.bind_eq_some_iff.mp H
    obtain ⟨t571, A50, H⟩ := H
    replace H : (if t571 < 0 then (some true) else ((laws_toTrie.f k l0_0).bind fun t572 => ((spec_CountSplits.f k t572 a1).bind fun bt575 => ((laws_toTrie.f k l0_0).bind fun t577 => ((impl_CountSplits.f k t577 a1).bind fun bt581 => (if bt581.1 = bt575.1 then (laws_FnExactCountSplits.j0 k (bt581.2 != bt575.2) l0_0 t577) else (laws_FnExactCountSplits.j0 k true l0_0 t577))))))) = some true := H
    have A5 := Aside0.mk A50
    clear A50
    by_cases c6 : t571 < 0
    · rw [if_pos c6] at H
      have c6b0 : decide (t571 < 0) = true := decide_eq_true c6
      clear c6
      (first | (obtain rfl := Option.some.inj H) | (have hH_ := Option.some.inj H; try simp only [hH_]))
      go_enter Tryz.func9, Tryz.ntmps9
      go_wp2_with (first | ((with_reducible refine gate_dst (N := 2) rfl ?_); refine box_event ?hg (N := 2) ?hd (cs := #[.slice A0_0 l0_0.length c0_0]) (t := 24) ?hr ?_; (case hd => rfl); (case hg => rfl); (case hr => first | (go_simp; done) | (go_simp; rfl)); intro gb570 hg w7 hbox hb; have n0_ := Aside0.mk (below_step (by repeat (first | (with_reducible first | exact HB.out | apply below_alloc | apply pw_below_drewN | apply below_drew1) | exact HB.out)) hb); have n1_ := Aside0.mk (hbox); have n2_ := Aside0.mk ((by rw [hg]; exact (below_size (by repeat (first | (with_reducible first | exact HB.out | apply below_alloc | apply pw_below_drewN | apply below_drew1) | exact HB.out))) : w.heap.size ≤ gb570)); have n3_ := Aside0.mk ((by rw [hg]; exact (below_size (by repeat (first | (with_reducible first | exact HB.out | apply below_alloc | apply pw_below_drewN | apply below_drew1) | exact HB.out))) : w.heap.size ≤ gb570)); clear HB; have HB := n0_; have BK570 := n1_; have GW570 := n2_; have GE570 := n3_; clear n0_ n1_ n2_ n3_; clear hb hbox hg; have hcz8_0 : w7.cell? ⟨gb570, 0, none⟩ = some (.slice A0_0 l0_0.length c0_0) := (blk_cell BK570.out 0).trans rfl; have hfz8_0 := blk_frozen BK570.out 0) | ((with_reducible refine gate_callee (f := 12) rfl ?_); refine goesL_ (some 16) rfl rfl Tryz.func12 (by kernel_rfl) rfl #[.agg #[.slice A0_0 l0_0.length c0_0], .int .i64 1048576] rfl (by (try simp only [List.map_toArray, List.map_cons, List.map_nil]); first | done | rfl | (simp only [List.length_drop, List.length_take]; rfl)) ?_; (with_reducible refine (laws_szTrie.calls _ _ l0_0 1048576 t571 _ ?side1 ?side2 A5.out).mono ?_); (case side1 => repeat (first | exact (Kd.C_below HR0_0.out HB.out) | (with_reducible refine Kd.C_alloc ?_ _) | (with_reducible refine Kd.C_drewN ?_ _) | (with_reducible refine Kd.C_drew ?_))); (case side2 => exact HC0_0.out); rintro e w9 ⟨rfl, hb⟩; refine ⟨_, rfl, ?_⟩; have n0_ := Aside0.mk (blk_below (g := gb570) (o := .cells #[.slice A0_0 l0_0.length c0_0] 24 (0, 0)) (by (with_reducible repeat (first | refine blk_drewN ?_ _ | refine blk_drew ?_ | refine blk_alloc ?_ _)); exact BK570.out) hb); have n1_ := Aside0.mk (below_step (by repeat (first | (with_reducible first | exact HB.out | apply below_alloc | apply pw_below_drewN | apply below_drew1 | refine below_set ?_ GE570.out) | exact HB.out)) hb); clear BK570; clear HB; have BK570 := n0_; have HB := n1_; clear n0_ n1_; (try clear hb); (try clear hb2); (try clear hk); (try clear hi)))
      go_ret
      exact ⟨by first | rfl | (simp [errW_none, errW_some] <;> rfl) | (simp [*, errW_none, errW_some] <;> rfl), by repeat (first | (with_reducible first | exact HB.out | apply below_alloc | apply pw_below_drewN | apply below_drew1 | refine below_set ?_ GE570.out) | exact HB.out)⟩
    · rw [if_neg c6] at H
      have c6b0 : decide (t571 < 0) = false := decide_eq_false c6
      clear c6
      replace H := Option.bind_eq_some_iff.mp H
      obtain ⟨t572, A100, H⟩ := H
      replace H : ((spec_CountSplits.f k t572 a1).bind fun bt575 => ((laws_toTrie.f k l0_0).bind fun t577 => ((impl_CountSplits.f k t577 a1).bind fun bt581 => (if bt581.1 = bt575.1 then (laws_FnExactCountSplits.j0 k (bt581.2 != bt575.2) l0_0 t577) else (laws_FnExactCountSplits.j0 k true l0_0 t577))))) = some true := H
      have A10 := Aside0.mk A100
      clear A100
      replace H := Option.bind_eq_some_iff.mp H
      obtain ⟨⟨t575, t576⟩, A110, H⟩ := H
      replace H : ((laws_toTrie.f k l0_0).bind fun t577 => ((impl_CountSplits.f k t577 a1).bind fun bt581 => (if bt581.1 = t575 then (laws_FnExactCountSplits.j0 k (bt581.2 != t576) l0_0 t577) else (laws_FnExactCountSplits.j0 k true l0_0 t577)))) = some true := H
      have A11 := Aside0.mk A110
      clear A110
      replace H := Option.bind_eq_some_iff.mp H
      obtain ⟨t577, A120, H⟩ := H
      replace H : ((impl_CountSplits.f k t577 a1).bind fun bt581 => (if bt581.1 = t575 then (laws_FnExactCountSplits.j0 k (bt581.2 != t576) l0_0 t577) else (laws_FnExactCountSplits.j0 k true l0_0 t577))) = some true := H
      have A12 := Aside0.mk A120
      clear A120
      replace H := Option.bind_eq_some_iff.mp H
      obtain ⟨⟨t581, t582⟩, A130, H⟩ := H
      replace H : (if t581 = t575 then (laws_FnExactCountSplits.j0 k (t582 != t576) l0_0 t577) else (laws_FnExactCountSplits.j0 k true l0_0 t577)) = some true := H
      have A13 := Aside0.mk A130
      clear A130
      have HC14 := Aside0.mk H
      clear H
      go_enter Tryz.func9, Tryz.ntmps9
      go_upto_region 10 with (first | ((with_reducible refine gate_dst (N := 2) rfl ?_); refine box_event ?hg (N := 2) ?hd (cs := #[.slice A0_0 l0_0.length c0_0]) (t := 24) ?hr ?_; (case hd => rfl); (case hg => rfl); (case hr => first | (go_simp; done) | (go_simp; rfl)); intro gb570 hg w15 hbox hb; have n0_ := Aside0.mk (below_step (by repeat (first | (with_reducible first | exact HB.out | apply below_alloc | apply pw_below_drewN | apply below_drew1) | exact HB.out)) hb); have n1_ := Aside0.mk (hbox); have n2_ := Aside0.mk ((by rw [hg]; exact (below_size (by repeat (first | (with_reducible first | exact HB.out | apply below_alloc | apply pw_below_drewN | apply below_drew1) | exact HB.out))) : w.heap.size ≤ gb570)); have n3_ := Aside0.mk ((by rw [hg]; exact (below_size (by repeat (first | (with_reducible first | exact HB.out | apply below_alloc | apply pw_below_drewN | apply below_drew1) | exact HB.out))) : w.heap.size ≤ gb570)); clear HB; have HB := n0_; have BK570 := n1_; have GW570 := n2_; have GE570 := n3_; clear n0_ n1_ n2_ n3_; clear hb hbox hg; have hcz16_0 : w15.cell? ⟨gb570, 0, none⟩ = some (.slice A0_0 l0_0.length c0_0) := (blk_cell BK570.out 0).trans rfl; have hfz16_0 := blk_frozen BK570.out 0) | ((with_reducible refine gate_callee (f := 12) rfl ?_); refine goesL_ (some 16) rfl rfl Tryz.func12 (by kernel_rfl) rfl #[.agg #[.slice A0_0 l0_0.length c0_0], .int .i64 1048576] rfl (by (try simp only [List.map_toArray, List.map_cons, List.map_nil]); first | done | rfl | (simp only [List.length_drop, List.length_take]; rfl)) ?_; (with_reducible refine (laws_szTrie.calls _ _ l0_0 1048576 t571 _ ?side1 ?side2 A5.out).mono ?_); (case side1 => repeat (first | exact (Kd.C_below HR0_0.out HB.out) | (with_reducible refine Kd.C_alloc ?_ _) | (with_reducible refine Kd.C_drewN ?_ _) | (with_reducible refine Kd.C_drew ?_))); (case side2 => exact HC0_0.out); rintro e w17 ⟨rfl, hb⟩; refine ⟨_, rfl, ?_⟩; have n0_ := Aside0.mk (blk_below (g := gb570) (o := .cells #[.slice A0_0 l0_0.length c0_0] 24 (0, 0)) (by (with_reducible repeat (first | refine blk_drewN ?_ _ | refine blk_drew ?_ | refine blk_alloc ?_ _)); exact BK570.out) hb); have n1_ := Aside0.mk (below_step (by repeat (first | (with_reducible first | exact HB.out | apply below_alloc | apply pw_below_drewN | apply below_drew1 | refine below_set ?_ GE570.out) | exact HB.out)) hb); clear BK570; clear HB; have BK570 := n0_; have HB := n1_; clear n0_ n1_; (try clear hb); (try clear hb2); (try clear hk); (try clear hi); have hcz18_0 : w17.cell? ⟨gb570, 0, none⟩ = some (.slice A0_0 l0_0.length c0_0) := (blk_cell BK570.out 0).trans rfl; have hfz18_0 := blk_frozen BK570.out 0) | ((with_reducible refine gate_callee (f := 14) rfl ?_); refine goesL_ (some 21) rfl rfl Tryz.func14 (by kernel_rfl) rfl #[.agg #[.slice A0_0 l0_0.length c0_0]] rfl (by (try simp only [List.map_toArray, List.map_cons, List.map_nil]); first | done | rfl | (simp only [List.length_drop, List.length_take]; rfl)) ?_; (with_reducible refine (laws_toTrie.calls k _ _ l0_0 t572 _ ?side1 ?side2 A10.out).mono ?_); (case side1 => repeat (first | exact (Kd.C_below HR0_0.out HB.out) | (with_reducible refine Kd.C_alloc ?_ _) | (with_reducible refine Kd.C_drewN ?_ _) | (with_reducible refine Kd.C_drew ?_))); (case side2 => exact HC0_0.out); rintro e w19 ⟨v573, rfl, ho0, hb⟩; refine ⟨_, rfl, ?_⟩; have n0_ := Aside0.mk (Kd.R_lower ho0 (below_size (by repeat (first | (with_reducible first | exact HB.out | apply below_alloc | apply pw_below_drewN | apply below_drew1 | refine below_set ?_ GE570.out) | exact HB.out)))); have n1_ := Aside0.mk (blk_below (g := gb570) (o := .cells #[.slice A0_0 l0_0.length c0_0] 24 (0, 0)) (by (with_reducible repeat (first | refine blk_drewN ?_ _ | refine blk_drew ?_ | refine blk_alloc ?_ _)); exact BK570.out) hb); have n2_ := Aside0.mk (below_step (by repeat (first | (with_reducible first | exact HB.out | apply below_alloc | apply pw_below_drewN | apply below_drew1 | refine below_set ?_ GE570.out) | exact HB.out)) hb); clear BK570; clear HB; have HO574 := n0_; have BK570 := n1_; have HB := n2_; clear n0_ n1_ n2_; (try clear hb); (try clear hb2); (try clear hk); (try clear hi); (try clear ho0); obtain ⟨Ao20, co20, eo20⟩ := Kd.R_slice HO574.out; subst eo20) | ((with_reducible refine gate_callee (f := 37) rfl ?_); refine goesL_ (some 23) rfl rfl Tryz.func37 (by kernel_rfl) rfl #[.agg #[.slice Ao20 t572.length co20], .string a1] rfl (by (try simp only [List.map_toArray, List.map_cons, List.map_nil]); first | done | rfl | (simp only [List.length_drop, List.length_take]; rfl)) ?_; (with_reducible refine (spec_CountSplits.calls k _ _ t572 a1 t575 t576 _ ?side1 ?side2 A11.out).mono ?_); (case side1 => repeat (first | exact (Kd.R_reads' HO574.out).2.2 | (with_reducible refine Kd.C_alloc ?_ _) | (with_reducible refine Kd.C_drewN ?_ _) | (with_reducible refine Kd.C_drew ?_))); (case side2 => exact (Kd.R_reads' HO574.out).2.1); rintro e w21 ⟨rfl, hb⟩; refine ⟨_, rfl, ?_⟩; have n0_ := Aside0.mk (Kd.R_below (by (with_reducible repeat (first | apply Kd.R_alloc | apply Kd.R_drewN | apply Kd.R_drew)); exact HO574.out) hb); have n1_ := Aside0.mk (blk_below (g := gb570) (o := .cells #[.slice A0_0 l0_0.length c0_0] 24 (0, 0)) (by (with_reducible repeat (first | refine blk_drewN ?_ _ | refine blk_drew ?_ | refine blk_alloc ?_ _)); exact BK570.out) hb); have n2_ := Aside0.mk (below_step (by repeat (first | (with_reducible first | exact HB.out | apply below_alloc | apply pw_below_drewN | apply below_drew1 | refine below_set ?_ GE570.out) | exact HB.out)) hb); clear HO574; clear BK570; clear HB; have HO574 := n0_; have BK570 := n1_; have HB := n2_; clear n0_ n1_ n2_; (try clear hb); (try clear hb2); (try clear hk); (try clear hi); have hcz22_0 : w21.cell? ⟨gb570, 0, none⟩ = some (.slice A0_0 l0_0.length c0_0) := (blk_cell BK570.out 0).trans rfl; have hfz22_0 := blk_frozen BK570.out 0) | ((with_reducible refine gate_callee (f := 14) rfl ?_); refine goesL_ (some 27) rfl rfl Tryz.func14 (by kernel_rfl) rfl #[.agg #[.slice A0_0 l0_0.length c0_0]] rfl (by (try simp only [List.map_toArray, List.map_cons, List.map_nil]); first | done | rfl | (simp only [List.length_drop, List.length_take]; rfl)) ?_; (with_reducible refine (laws_toTrie.calls k _ _ l0_0 t577 _ ?side1 ?side2 A12.out).mono ?_); (case side1 => repeat (first | exact (Kd.C_below HR0_0.out HB.out) | (with_reducible refine Kd.C_alloc ?_ _) | (with_reducible refine Kd.C_drewN ?_ _) | (with_reducible refine Kd.C_drew ?_))); (case side2 => exact HC0_0.out); rintro e w23 ⟨v578, rfl, ho0, hb⟩; refine ⟨_, rfl, ?_⟩; have n0_ := Aside0.mk (Kd.R_elder' (by (with_reducible repeat (first | apply Kd.R_alloc | apply Kd.R_drewN | apply Kd.R_drew)); exact HO574.out) (Kd.R_base ho0) hb); have n1_ := Aside0.mk (Kd.R_lower (Kd.R_new' ho0 (Kd.R_lt (by (with_reducible repeat (first | apply Kd.R_alloc | apply Kd.R_drewN | apply Kd.R_drew)); exact HO574.out))) (below_size (by repeat (first | (with_reducible first | exact HB.out | apply below_alloc | apply pw_below_drewN | apply below_drew1 | refine below_set ?_ GE570.out) | exact HB.out)))); have n2_ := Aside0.mk (blk_below (g := gb570) (o := .cells #[.slice A0_0 l0_0.length c0_0] 24 (0, 0)) (by (with_reducible repeat (first | refine blk_drewN ?_ _ | refine blk_drew ?_ | refine blk_alloc ?_ _)); exact BK570.out) hb); have n3_ := Aside0.mk (below_step (by repeat (first | (with_reducible first | exact HB.out | apply below_alloc | apply pw_below_drewN | apply below_drew1 | refine below_set ?_ GE570.out) | exact HB.out)) hb); clear HO574; clear BK570; clear HB; have HO574 := n0_; have HO579 := n1_; have BK570 := n2_; have HB := n3_; clear n0_ n1_ n2_ n3_; (try clear hb); (try clear hb2); (try clear hk); (try clear hi); (try clear ho0)) | ((with_reducible refine gate_dst (N := 8) rfl ?_); refine box_event ?hg (N := 8) ?hd (cs := #[.slice none 0 0]) (t := 31) ?hr ?_; (case hd => rfl); (case hg => rfl); (case hr => first | (go_simp; done) | (go_simp; rfl)); intro gb580 hg w24 hbox hb; have n0_ := Aside0.mk (Kd.R_below (by (with_reducible repeat (first | apply Kd.R_alloc | apply Kd.R_drewN | apply Kd.R_drew)); exact HO574.out) hb); have n1_ := Aside0.mk (Kd.R_below (by (with_reducible repeat (first | apply Kd.R_alloc | apply Kd.R_drewN | apply Kd.R_drew)); exact HO579.out) hb); have n2_ := Aside0.mk (blk_below (g := gb570) (o := .cells #[.slice A0_0 l0_0.length c0_0] 24 (0, 0)) (by (with_reducible repeat (first | refine blk_drewN ?_ _ | refine blk_drew ?_ | refine blk_alloc ?_ _)); exact BK570.out) hb); have n3_ := Aside0.mk (below_step (by repeat (first | (with_reducible first | exact HB.out | apply below_alloc | apply pw_below_drewN | apply below_drew1 | refine below_set ?_ GE570.out) | exact HB.out)) hb); have n4_ := Aside0.mk (hbox); have n5_ := Aside0.mk ((by rw [hg]; exact (below_size (by repeat (first | (with_reducible first | exact HB.out | apply below_alloc | apply pw_below_drewN | apply below_drew1 | refine below_set ?_ GE570.out) | exact HB.out))) : w.heap.size ≤ gb580)); have n6_ := Aside0.mk ((by rw [hg]; exact (below_size (by repeat (first | (with_reducible first | exact HB.out | apply below_alloc | apply pw_below_drewN | apply below_drew1 | refine below_set ?_ GE570.out) | exact HB.out))) : w.heap.size ≤ gb580)); have n7_ := Aside0.mk ((by rw [hg]; exact Nat.ne_of_lt (blk_lt (g := gb570) (o := .cells #[.slice A0_0 l0_0.length c0_0] 24 (0, 0)) (by (with_reducible repeat (first | refine blk_drewN ?_ _ | refine blk_drew ?_ | refine blk_alloc ?_ _)); exact BK570.out)) : gb570 ≠ gb580)); have n8_ := Aside0.mk ((by rw [hg]; exact Nat.ne_of_gt (blk_lt (g := gb570) (o := .cells #[.slice A0_0 l0_0.length c0_0] 24 (0, 0)) (by (with_reducible repeat (first | refine blk_drewN ?_ _ | refine blk_drew ?_ | refine blk_alloc ?_ _)); exact BK570.out)) : gb580 ≠ gb570)); clear HO574; clear HO579; clear BK570; clear HB; have HO574 := n0_; have HO579 := n1_; have BK570 := n2_; have HB := n3_; have BK580 := n4_; have GW580 := n5_; have GE580 := n6_; have NB570_580 := n7_; have NB580_570 := n8_; clear n0_ n1_ n2_ n3_ n4_ n5_ n6_ n7_ n8_; clear hb hbox hg; obtain ⟨Ao25, co25, eo25⟩ := Kd.R_slice HO579.out; subst eo25; have hnb26 := NB580_570.out; have hnc26 := NB570_580.out; have hcz27_0 : w24.cell? ⟨gb580, 0, none⟩ = some (.slice none 0 0) := (blk_cell BK580.out 0).trans rfl; have hfz27_0 := blk_frozen BK580.out 0) | ((with_reducible refine gate_callee (f := 38) rfl ?_); refine goesL_ (some 31) rfl rfl Tryz.func38 (by kernel_rfl) rfl #[.agg #[.slice Ao25 t577.length co25], .string a1] rfl (by (try simp only [List.map_toArray, List.map_cons, List.map_nil]); first | done | rfl | (simp only [List.length_drop, List.length_take]; rfl)) ?_; (with_reducible refine (impl_CountSplits.calls k _ _ t577 a1 t581 t582 _ ?side1 ?side2 A13.out).mono ?_); (case side1 => refine (Kd.R_reads' (e := 83) (base := w.heap.size) (ok := fun k_ => (True ∧ some k_ ≠ (.slice Ao20 t572.length co20 : Value).ownBlock)) (n := t577.length) (c := co25) ?_).2.2; exact (by (with_reducible repeat (first | apply Kd.R_alloc | apply Kd.R_drewN | apply Kd.R_drew)); exact (Kd.R_mono (R_same_ (Kd.R_far (p := ⟨gb580, 0, none⟩) (Kd.R_types HO579.out BK580.out (by decide)) (fun _ hk => hk.2) (.slice Ao25 t577.length co25)) rfl) (fun _ h_ => h_.1)))); (case side2 => exact (Kd.R_reads' HO579.out).2.1); rintro e w28 ⟨rfl, hb⟩; refine ⟨_, rfl, ?_⟩; have n0_ := Aside0.mk (Kd.R_below (by (with_reducible repeat (first | apply Kd.R_alloc | apply Kd.R_drewN | apply Kd.R_drew)); exact (Kd.R_mono (R_same_ (Kd.R_far (p := ⟨gb580, 0, none⟩) (Kd.R_types HO574.out BK580.out (by decide)) (fun _ hk => hk.2) (.slice Ao25 t577.length co25)) rfl) (fun _ h_ => h_.1))) hb); have n1_ := Aside0.mk (Kd.R_below (by (with_reducible repeat (first | apply Kd.R_alloc | apply Kd.R_drewN | apply Kd.R_drew)); exact (Kd.R_mono (R_same_ (Kd.R_far (p := ⟨gb580, 0, none⟩) (Kd.R_types HO579.out BK580.out (by decide)) (fun _ hk => hk.2) (.slice Ao25 t577.length co25)) rfl) (fun _ h_ => h_.1))) hb); have n2_ := Aside0.mk (blk_below (g := gb570) (o := .cells #[.slice A0_0 l0_0.length c0_0] 24 (0, 0)) (by (with_reducible repeat (first | refine blk_drewN ?_ _ | refine blk_drew ?_ | refine blk_alloc ?_ _)); refine blk_far ?_ NB570_580.out _; (with_reducible repeat (first | refine blk_drewN ?_ _ | refine blk_drew ?_ | refine blk_alloc ?_ _)); exact BK570.out) hb); have n3_ := Aside0.mk (blk_below (g := gb580) (o := .cells #[.slice Ao25 t577.length co25] 31 (0, 0)) (by (with_reducible repeat (first | refine blk_drewN ?_ _ | refine blk_drew ?_ | refine blk_alloc ?_ _)); refine blk_put (cs := #[.slice none 0 0]) ?_ 0 _ rfl; (with_reducible repeat (first | refine blk_drewN ?_ _ | refine blk_drew ?_ | refine blk_alloc ?_ _)); exact BK580.out) hb); have n4_ := Aside0.mk (below_step (by repeat (first | (with_reducible first | exact HB.out | apply below_alloc | apply pw_below_drewN | apply below_drew1 | refine below_set ?_ GE570.out | refine below_set ?_ GE580.out) | exact HB.out)) hb); clear HO574; clear HO579; clear BK570; clear BK580; clear HB; have HO574 := n0_; have HO579 := n1_; have BK570 := n2_; have BK580 := n3_; have HB := n4_; clear n0_ n1_ n2_ n3_ n4_; (try clear hb); (try clear hb2); (try clear hk); (try clear hi)))
      (try simp only [Act.put, List.setIfInBounds_toArray, List.set_cons_zero, List.set_cons_succ])
      go_cut [41] (fun v41 wc => ∃ (kq : Nat) (x41_13 : Bool), v41 = .bool x41_13 ∧ Aside0 (laws_FnExactCountSplits.j0 kq x41_13 l0_0 t577 = some true) ∧ Aside0 (kq ≤ k) ∧ Aside0 (Kd.R k83 83 wc w.heap.size (fun _ => True) (.slice Ao25 t577.length co25) t577) ∧ Aside0 (wc.heap[gb570]? = some (.cells #[(.slice A0_0 l0_0.length c0_0)] 24 (0, 0))) ∧ Aside0 (wc.heap[gb580]? = some (.cells #[(.slice Ao25 t577.length co25)] 31 (0, 0))) ∧ Aside0 (Below w.heap.size w wc))
      case first =>
        have H := HC14.out
        clear HC14
        by_cases c29 : t581 = t575
        · rw [if_pos c29] at H
          have c29b0 : (t581 == t575) = true := beq_iff_eq.mpr c29
          have c29b1 : (t581 != t575) = false := bne_eq_false_iff_eq.mpr c29
          clear c29
          (first | rw [c29b0] | (simp only [i64_w, i32_w]; rw [c29b0]) | skip)
          have H' := Aside0.mk H
          clear H
          go_wp2
          go_meet
          case rel => exact ⟨_, ((t582 != t576)), (by first | rfl | (simp; done) | (simp [*]; done)), H', ⟨by first | omega | exact Nat.le_refl _⟩, ⟨by (with_reducible repeat (first | apply Kd.R_alloc | apply Kd.R_drewN | apply Kd.R_drew)); exact Kd.R_mono HO579.out (fun _ hk => trivial)⟩, ⟨by (with_reducible repeat (first | refine blk_drewN ?_ _ | refine blk_drew ?_ | refine blk_alloc ?_ _)); exact BK570.out⟩, ⟨by (with_reducible repeat (first | refine blk_drewN ?_ _ | refine blk_drew ?_ | refine blk_alloc ?_ _)); exact BK580.out⟩, ⟨by repeat (first | (with_reducible first | exact HB.out | apply below_alloc | apply pw_below_drewN | apply below_drew1 | refine below_set ?_ GE570.out | refine below_set ?_ GE580.out) | exact HB.out)⟩⟩
        · rw [if_neg c29] at H
          exact absurd H (by cases k <;> simp [laws_FnExactCountSplits.j0])
      case rest =>
        clear HC14
        try clear c1
        try clear c2
        try clear p2
        try clear c3
        try clear c3b0
        try clear c3b1
        try clear c6
        try clear c6b0
        try clear c9
        try clear c12
        try clear c14
        try clear c26
        try clear c29
        try clear c29b0
        try clear c29b1
        try clear hcz16_0
        try clear hcz18_0
        try clear hcz22_0
        try clear hcz27_0
        try clear hcz8_0
        try clear hfz16_0
        try clear hfz18_0
        try clear hfz22_0
        try clear hfz27_0
        try clear hfz8_0
        obtain ⟨kq, x41_13, rfl, HA, HJ13, HO_581000, BK570, BK580, HB⟩ := hcut
        cases kq with
        | zero => exact absurd HA.out (by simp [laws_FnExactCountSplits.j0])
        | succ kj13 =>
          have H := HA.out
          clear HA
          simp only [laws_FnExactCountSplits.j0] at H
          by_cases c30 : x41_13 = true
          · subst c30
            have H1 : (some false) = some true := by rw [if_pos rfl] at H; exact H
            exact absurd H1 (by simp)
          · replace c30 := Bool.eq_false_iff.mpr c30
            subst c30
            have H1 : ((laws_toTrie.f kj13 l0_0).bind fun t583 => ((laws_eqTrie.f kj13 t577 t583).bind fun t586 => (if t586 = true then (some true) else (some false)))) = some true := by rw [if_neg (show ¬ (false = true) by decide)] at H; exact H
            clear H
            have H := H1
            clear H1
            replace H := Option.bind_eq_some_iff.mp H
            obtain ⟨t583, A310, H⟩ := H
            replace H : ((laws_eqTrie.f kj13 t577 t583).bind fun t586 => (if t586 = true then (some true) else (some false))) = some true := H
            have A31 := Aside0.mk A310
            clear A310
            replace H := Option.bind_eq_some_iff.mp H
            obtain ⟨t586, A320, H⟩ := H
            replace H : (if t586 = true then (some true) else (some false)) = some true := H
            have A32 := Aside0.mk A320
            clear A320
            by_cases c33 : t586 = true
            · subst c33
              have H1 : (some true) = some true := rfl
              clear H
              have H := H1
              clear H1
              (first | (obtain rfl := Option.some.inj H) | (have hH_ := Option.some.inj H; try simp only [hH_]))
              try go_wp2
              have n0_ := Aside0.mk (Kd.R_drew HO_581000.out)
              have n1_ := Aside0.mk (blk_drew BK570.out)
              have n2_ := Aside0.mk (blk_drew BK580.out)
              have n3_ := Aside0.mk (below_drew1 HB.out)
              clear HO_581000
              clear BK570
              clear BK580
              clear HB
              have HO_581000 := n0_
              have BK570 := n1_
              have BK580 := n2_
              have HB := n3_
              clear n0_ n1_ n2_ n3_
              refine start_ (n := 5) (S := fun w' => w'.cell? ⟨gb580, 0, none⟩ = some (.slice Ao25 t577.length co25) ∧ w'.cell? ⟨gb570, 0, none⟩ = some (.slice A0_0 l0_0.length c0_0)) (ds := []) #[false, false, false, false, false] (by kernel_rfl) rfl rfl ⟨(blk_cell BK580.out 0).trans rfl, (blk_cell BK570.out 0).trans rfl⟩ (fun hHeld => ?_)
              generalize wc.drew = w34 at HO_581000 BK570 BK580 HB hHeld ⊢
              refine take_ (i := 0) (N := some 42) (v := ?_) (a' := ?_) #[true, false, false, false, false] rfl rfl (by kernel_rfl) (fun _ _ _ h => h) (Or.inl ⟨by rfl, ?_⟩) hHeld ?_ ?_
              rotate_left
              · rintro w' ⟨s0, s1⟩
                go_simp
                with_reducible rfl
              rotate_left
              · simp only [Act.put, List.setIfInBounds_toArray, List.set_cons_zero, List.set_cons_succ, i64_w, i32_w]
                rfl
              refine take_ (i := 1) (N := some 43) (v := ?_) (a' := ?_) #[true, true, false, false, false] rfl rfl (by kernel_rfl) (fun _ _ _ h => h) (Or.inl ⟨by rfl, ?_⟩) hHeld ?_ ?_
              rotate_left
              · rintro w' ⟨s0, s1⟩
                go_simp
                with_reducible rfl
              rotate_left
              · simp only [Act.put, List.setIfInBounds_toArray, List.set_cons_zero, List.set_cons_succ, i64_w, i32_w]
                rfl
              refine one_ (i := 2) (N := some 44) #[true, true, true, false, false] rfl rfl (by kernel_rfl) (by decide) (fun K hK => ?_)
              refine goes_ Tryz.func14 (by kernel_rfl) rfl #[.agg #[.slice A0_0 l0_0.length c0_0]] (by rfl) rfl rfl (by (try simp only [List.map_toArray, List.map_cons, List.map_nil]); first | done | rfl | (simp only [List.length_drop, List.length_take]; rfl)) ?_
              with_reducible refine (laws_toTrie.calls kj13 _ _ l0_0 t583 _ ?side1 ?side2 A31.out).mono ?_
              (case side1 => repeat (first | exact (Kd.C_below HR0_0.out HB.out) | (with_reducible refine Kd.C_alloc ?_ _) | (with_reducible refine Kd.C_drewN ?_ _) | (with_reducible refine Kd.C_drew ?_)))
              (case side2 => exact HC0_0.out)
              rintro e w35 ⟨v584, rfl, ho0, hb⟩
              refine ⟨_, rfl, ?_⟩
              have n0_ := Aside0.mk (Kd.R_elder' (by (with_reducible repeat (first | apply Kd.R_alloc | apply Kd.R_drewN | apply Kd.R_drew)); exact HO_581000.out) (Kd.R_base ho0) hb)
              have n1_ := Aside0.mk (Kd.R_lower (Kd.R_new' ho0 (Kd.R_lt (by (with_reducible repeat (first | apply Kd.R_alloc | apply Kd.R_drewN | apply Kd.R_drew)); exact HO_581000.out))) (below_size (by repeat (first | (with_reducible first | exact HB.out | apply below_alloc | apply pw_below_drewN | apply below_drew1 | refine below_set ?_ GE570.out | refine below_set ?_ GE580.out) | exact HB.out))))
              have n2_ := Aside0.mk (blk_below (g := gb570) (o := .cells #[.slice A0_0 l0_0.length c0_0] 24 (0, 0)) (by (with_reducible repeat (first | refine blk_drewN ?_ _ | refine blk_drew ?_ | refine blk_alloc ?_ _)); exact BK570.out) hb)
              have n3_ := Aside0.mk (blk_below (g := gb580) (o := .cells #[.slice Ao25 t577.length co25] 31 (0, 0)) (by (with_reducible repeat (first | refine blk_drewN ?_ _ | refine blk_drew ?_ | refine blk_alloc ?_ _)); exact BK580.out) hb)
              have n4_ := Aside0.mk (below_step (by repeat (first | (with_reducible first | exact HB.out | apply below_alloc | apply pw_below_drewN | apply below_drew1 | refine below_set ?_ GE570.out | refine below_set ?_ GE580.out) | exact HB.out)) hb)
              clear HO_581000
              clear BK570
              clear BK580
              clear HB
              have HO_581000 := n0_
              have HO585 := n1_
              have BK570 := n2_
              have BK580 := n3_
              have HB := n4_
              clear n0_ n1_ n2_ n3_ n4_
              (try clear hb)
              (try clear hb2)
              (try clear hk)
              (try clear hi)
              (try clear ho0)
              obtain ⟨Ao36, co36, eo36⟩ := Kd.R_slice HO585.out
              (first | subst eo36 | (injection eo36 with f1_ f2_ f3_; have f4_ := f1_.symm; have f5_ := f3_.symm; clear f1_ f2_ f3_; subst f4_; subst f5_))
              refine hK.out _ _ ⟨(blk_cell BK580.out 0).trans rfl, (blk_cell BK570.out 0).trans rfl⟩ (fun hHeld => ?_)
              clear hK K
              refine norm_ (a' := ?_) ?_ ?_
              rotate_left
              · show Act.put _ (some 44) _ = _
                simp only [Act.put, List.setIfInBounds_toArray, List.set_cons_zero, List.set_cons_succ, i64_w, i32_w]
                rfl
              refine one_ (i := 3) (N := some 45) #[true, true, true, true, false] rfl rfl (by kernel_rfl) (by decide) (fun K hK => ?_)
              refine goes_ Tryz.func17 (by kernel_rfl) rfl #[.agg #[.slice Ao25 t577.length co25], .agg #[.slice Ao36 t583.length co36]] (by rfl) rfl rfl (by (try simp only [List.map_toArray, List.map_cons, List.map_nil]); first | done | rfl | (simp only [List.length_drop, List.length_take]; rfl)) ?_
              with_reducible refine (laws_eqTrie.calls kj13 _ _ t577 _ _ t583 true _ ?side1 ?side2 ?side3 ?side4 A32.out).mono ?_
              (case side1 => repeat (first | exact (Kd.R_reads' HO_581000.out).2.2 | (with_reducible refine Kd.C_alloc ?_ _) | (with_reducible refine Kd.C_drewN ?_ _) | (with_reducible refine Kd.C_drew ?_)))
              (case side2 => exact (Kd.R_reads' HO_581000.out).2.1)
              (case side3 => repeat (first | exact (Kd.R_reads' HO585.out).2.2 | (with_reducible refine Kd.C_alloc ?_ _) | (with_reducible refine Kd.C_drewN ?_ _) | (with_reducible refine Kd.C_drew ?_)))
              (case side4 => exact (Kd.R_reads' HO585.out).2.1)
              rintro e w37 ⟨rfl, hb⟩
              refine ⟨_, rfl, ?_⟩
              have n0_ := Aside0.mk (Kd.R_below (by (with_reducible repeat (first | apply Kd.R_alloc | apply Kd.R_drewN | apply Kd.R_drew)); exact HO_581000.out) hb)
              have n1_ := Aside0.mk (Kd.R_below (by (with_reducible repeat (first | apply Kd.R_alloc | apply Kd.R_drewN | apply Kd.R_drew)); exact HO585.out) hb)
              have n2_ := Aside0.mk (blk_below (g := gb570) (o := .cells #[.slice A0_0 l0_0.length c0_0] 24 (0, 0)) (by (with_reducible repeat (first | refine blk_drewN ?_ _ | refine blk_drew ?_ | refine blk_alloc ?_ _)); exact BK570.out) hb)
              have n3_ := Aside0.mk (blk_below (g := gb580) (o := .cells #[.slice Ao25 t577.length co25] 31 (0, 0)) (by (with_reducible repeat (first | refine blk_drewN ?_ _ | refine blk_drew ?_ | refine blk_alloc ?_ _)); exact BK580.out) hb)
              have n4_ := Aside0.mk (below_step (by repeat (first | (with_reducible first | exact HB.out | apply below_alloc | apply pw_below_drewN | apply below_drew1 | refine below_set ?_ GE570.out | refine below_set ?_ GE580.out) | exact HB.out)) hb)
              clear HO_581000
              clear HO585
              clear BK570
              clear BK580
              clear HB
              have HO_581000 := n0_
              have HO585 := n1_
              have BK570 := n2_
              have BK580 := n3_
              have HB := n4_
              clear n0_ n1_ n2_ n3_ n4_
              (try clear hb)
              (try clear hb2)
              (try clear hk)
              (try clear hi)
              refine hK.out _ _ ⟨(blk_cell BK580.out 0).trans rfl, (blk_cell BK570.out 0).trans rfl⟩ (fun hHeld => ?_)
              clear hK K
              refine norm_ (a' := ?_) ?_ ?_
              rotate_left
              · show Act.put _ (some 45) _ = _
                simp only [Act.put, List.setIfInBounds_toArray, List.set_cons_zero, List.set_cons_succ, i64_w, i32_w]
                rfl
              refine pure_ (i := 4) (N := some 46) (v := ?_) (a' := ?_) #[true, true, true, true, true] rfl rfl (by kernel_rfl) (fun _ _ _ h => h) (Or.inl ⟨by rfl, ?_⟩) ?_ ?_
              rotate_left
              · intro w'
                go_simp
                with_reducible rfl
              rotate_left
              · simp only [Act.put, List.setIfInBounds_toArray, List.set_cons_zero, List.set_cons_succ, i64_w, i32_w]
                rfl
              refine done_ (by kernel_rfl) ?_
              try go_wp2
              go_ret
              exact ⟨by first | rfl | (simp [errW_none, errW_some] <;> rfl) | (simp [*, errW_none, errW_some] <;> rfl), by repeat (first | (with_reducible first | exact HB.out | apply below_alloc | apply pw_below_drewN | apply below_drew1 | refine below_set ?_ GE570.out | refine below_set ?_ GE580.out) | exact HB.out)⟩
            · replace c33 := Bool.eq_false_iff.mpr c33
              subst c33
              have H1 : (some false) = some true := by rw [if_neg (show ¬ (false = true) by decide)] at H; exact H
              exact absurd H1 (by simp)
end Go.Proofs.YtcgcicngfemnlaaGreatDoor.Q
namespace Go.Proofs.YtcgcicngfemnlaaGreatDoor.Q
open Go.RowKit Go.Proofs.YtcgcicngfemnlaaGreatDoorW.PrintWords Go.Proofs.YtcgcicngfemnlaaGreatDoorW.PrintLast
def lwD (b : ByteArray) : List UInt8 := b.data.toList
theorem lwD_length (b : ByteArray) : (lwD b).length = b.size := by unfold lwD; rw [Array.length_toList]; rfl
def lettersD (w : ByteArray) : Prop := ∀ x ∈ lwD w, 97 ≤ x.toNat ∧ x.toNat ≤ 122
def okWordD (w : ByteArray) : Prop := w.size ≤ 12 ∧ lettersD w
theorem bt_natD (a : ByteArray) (i : Nat) (h : i < (lwD a).length) : bt a (i : Int) = (((lwD a)[i]'h).toNat : Int) := by
  have h2 : i < a.size := by rw [← lwD_length]; exact h
  have : ((i : Int)).toNat < a.size := by simpa using h2
  rw [← bt_at a (i : Int) this]
  rfl
instance (w : ByteArray) : Decidable (lettersD w) := inferInstanceAs (Decidable (∀ x ∈ lwD w, 97 ≤ x.toNat ∧ x.toNat ≤ 122))
instance (w : ByteArray) : Decidable (okWordD w) := inferInstanceAs (Decidable (w.size ≤ 12 ∧ lettersD w))
theorem lettersB_D (w : ByteArray) : lettersB w = decide (lettersD w) := by
  rw [Bool.eq_iff_iff, decide_eq_true_eq]
  unfold lettersB lettersD lwD
  rw [List.all_eq_true]
  exact forall_congr' fun x => imp_congr Iff.rfl decide_eq_true_iff
end Go.Proofs.YtcgcicngfemnlaaGreatDoor.Q
namespace Go.Proofs.YtcgcicngfemnlaaGreatDoor.Q
open Go.RowKit Go.Proofs.YtcgcicngfemnlaaGreatDoorW.PrintWords Go.Proofs.YtcgcicngfemnlaaGreatDoorW.PrintLast
def okPass (a : ByteArray) : Prop := a.size ≤ 60 ∧ lettersD a
instance (w : ByteArray) : Decidable (okPass w) := inferInstanceAs (Decidable (w.size ≤ 60 ∧ lettersD w))
theorem text_l0 (a : ByteArray) : ∀ (n i : Nat), i + n = min a.size 61 → (∀ x ∈ (lwD a).take i, 97 ≤ x.toNat ∧ x.toNat ≤ 122) → Ev (fun k => spec_l3Text.l0 k a (i : Int)) (decide (okPass a)) := by
  intro n
  induction n with
  | zero =>
    intro i h hx
    refine Ev.succ ?_
    simp only [spec_l3Text.l0]
    have e : decide ((a.size : Int) ≤ 60) = decide (okPass a) := by
      refine decide_eq_decide.2 ⟨fun hs => ⟨by omega, ?_⟩, fun h => by have := h.1; omega⟩
      rw [List.take_of_length_le (by rw [lwD_length]; omega)] at hx
      exact hx
    by_cases hs : a.size ≤ 60
    · refine Ev.neg (by omega) (Ev.succ ?_)
      simp only [spec_l3Text.j1]
      refine Ev.neg (by decide) ?_
      rw [e]
      exact Ev.pure _
    · have e1 : i = 61 := by omega
      by_cases h13 : 61 < a.size
      · refine Ev.pos (by omega) (Ev.succ ?_)
        simp only [spec_l3Text.j1]
        refine Ev.neg (by simp; omega) ?_
        rw [e]
        exact Ev.pure _
      · refine Ev.neg (by omega) (Ev.succ ?_)
        simp only [spec_l3Text.j1]
        refine Ev.neg (by decide) ?_
        rw [e]
        exact Ev.pure _
  | succ n ih =>
    intro i h hx
    refine Ev.succ ?_
    simp only [spec_l3Text.l0]
    have hi : i < (lwD a).length := by rw [lwD_length]; omega
    refine Ev.pos (by omega) (Ev.succ ?_)
    simp only [spec_l3Text.j1, bt_natD a i hi]
    refine Ev.pos (by simp; omega) (Ev.pos (by omega) (Ev.pos (by omega) ?_))
    have hnot : ¬ (97 ≤ ((lwD a)[i]).toNat ∧ ((lwD a)[i]).toNat ≤ 122) → decide (okPass a) = false := fun hq => decide_eq_false (fun ho => hq (ho.2 _ (List.getElem_mem hi)))
    by_cases h1 : 97 ≤ ((lwD a)[i]).toNat
    · refine Ev.neg (by omega) ?_
      by_cases h2 : ((lwD a)[i]).toNat ≤ 122
      · refine Ev.neg (by omega) ?_
        rw [wnext i (by omega)]
        refine ih (i + 1) (by omega) (fun x hm => ?_)
        rw [List.take_succ_eq_append_getElem hi] at hm
        rcases List.mem_append.1 hm with hm | hm
        · exact hx x hm
        · rw [List.mem_singleton.1 hm]; exact ⟨h1, h2⟩
      · rw [hnot (by omega)]
        exact Ev.pos (by omega) (Ev.pure _)
    · rw [hnot (by omega)]
      exact Ev.pos (by omega) (Ev.pure _)
theorem text_ev (a : ByteArray) : Ev (fun k => spec_l3Text.f k a) (decide (okPass a)) := by
  unfold spec_l3Text.f
  exact text_l0 a (min a.size 61) 0 (by omega) (fun x hx => by cases hx)
theorem pass_ev (l : List IN) (a : ByteArray) : Ev (fun k => impl_arePassage.f k l a) (isTrieW l && decide (okPass a)) := by
  unfold impl_arePassage.f impl_areLetters.f
  by_cases h60 : a.size ≤ 60
  · refine Ev.pos (by omega) (Ev.bindc (by rw [if_pos (by omega), lettersB_D]) ?_)
    by_cases hl : lettersD a
    · rw [decide_eq_true (show okPass a from ⟨h60, hl⟩), Bool.and_true]
      exact Ev.pos (decide_eq_true hl) (Ev.bind (implT l rfl) (Ev.pure _))
    · rw [decide_eq_false (fun h : okPass a => hl h.2), Bool.and_false]
      exact Ev.neg (by simpa using hl) (Ev.pure _)
  · rw [decide_eq_false (fun h : okPass a => h60 h.1), Bool.and_false]
    exact Ev.neg (by omega) (Ev.pure _)
theorem good_ev (l : List IN) (a : ByteArray) : Ev (fun k => spec_l3Good.f k l a) (isTrieW l && decide (okPass a)) := by
  unfold spec_l3Good.f
  refine Ev.bind (specT l rfl) ?_
  cases h : isTrieW l with
  | false => exact Ev.neg (by decide) (Ev.pure _)
  | true => exact Ev.pos rfl (Ev.bind (text_ev a) (Ev.pure _))
theorem pass_cases (l : List IN) (a : ByteArray) : (Ev (fun k => impl_arePassage.f k l a) false ∧ Ev (fun k => spec_l3Good.f k l a) false) ∨
    ∃ ws, VW ws ∧ l = trieW ws ∧ a.size ≤ 60 ∧ Ev (fun k => impl_arePassage.f k l a) true ∧ Ev (fun k => spec_l3Good.f k l a) true ∧ impl_Trie_standing.f l a = some (standW ws a) := by
  have h1 := pass_ev l a
  have h2 := good_ev l a
  rcases trie_cases l with hf | ⟨ws, hv, rfl, ht⟩
  · rw [hf] at h1 h2; exact .inl ⟨h1, h2⟩
  · by_cases ho : okPass a
    · rw [ht, decide_eq_true ho] at h1 h2
      exact .inr ⟨ws, hv, rfl, ho.1, h1, h2, by unfold impl_Trie_standing.f; rw [ht, decide_eq_true ho.1, wordsV_trie hv]; rfl⟩
    · rw [ht, decide_eq_false ho] at h1 h2; exact .inl ⟨h1, h2⟩
def putI (l : List Int) (n : Int) : List Int := l.takeWhile (fun x => decide (x < n)) ++ n :: l.dropWhile (fun x => decide (x < n))
theorem putI_l0 (l : List Int) (n : Int) (hl : l.length ≤ 1000000) (hn : n ∉ l) : ∀ (m i : Nat), i + m = (l.takeWhile fun x => decide (x < n)).length → Ev (fun k => spec_l1Put.l0 k l n (i : Int)) (putI l n) := by
  have hle : (l.takeWhile fun x => decide (x < n)).length ≤ l.length := (List.takeWhile_prefix _).length_le
  have htd := List.takeWhile_append_dropWhile (p := fun x => decide (x < n)) (l := l)
  intro m
  induction m with
  | zero =>
    intro i h
    have ht : l.take i = l.takeWhile fun x => decide (x < n) := by
      conv => lhs; rw [← htd]
      rw [List.take_append_of_le_length (by omega), List.take_of_length_le (by omega)]
    have hd : l.drop i = l.dropWhile fun x => decide (x < n) := by
      conv => lhs; rw [← htd]
      rw [List.drop_append_of_le_length (by omega), List.drop_of_length_le (by omega), List.nil_append]
    have hput : putI l n = (([] ++ l.take i) ++ [n]) ++ l.drop i := by rw [ht, hd]; simp [putI]
    rw [hput]
    have hsz : (l.take i).length ≤ l.length := by rw [List.length_take]; omega
    have hsd : (l.drop i).length ≤ l.length := by rw [List.length_drop]; omega
    refine Ev.succ ?_
    simp only [spec_l1Put.l0, Option.bind_some, Int.toNat_natCast]
    by_cases hi : i < l.length
    · have hge : ¬ l[i] < n := by
        have h0 : (l.dropWhile fun x => decide (x < n)) ≠ [] := by rw [← hd]; intro e; have := congrArg List.length e; rw [List.length_drop] at this; simp at this; omega
        have h1 := List.head_dropWhile_not (p := fun x => decide (x < n)) h0
        have h2 : (l.dropWhile fun x => decide (x < n)).head h0 = l[i] := by
          have : (l.drop i).head (by rw [hd]; exact h0) = l[i] := by rw [List.head_drop]
          rw [← this]
          congr 1
          rw [hd]
        rw [h2] at h1
        simpa using h1
      have hne : ¬ l[i] = n := fun e => hn (e ▸ List.getElem_mem hi)
      have e : rd l (i : Int) = l[i] := by simp [rd, hi]
      rw [e]
      refine Ev.pos (by omega) (Ev.pos (by omega) (Ev.neg hge (Ev.neg hne (Ev.pos (by omega) (Ev.pos (by simp; omega) (Ev.pos (by simp; omega) (Ev.pos (by simp; omega) (Ev.pure _))))))))
    · refine Ev.neg (by omega) (Ev.pos (by omega) (Ev.pos (by omega) (Ev.pos (by simp; omega) (Ev.pos (by simp; omega) (Ev.pos (by simp; omega) (Ev.pure _))))))
  | succ m ih =>
    intro i h
    have hi : i < (l.takeWhile fun x => decide (x < n)).length := by omega
    have hil : i < l.length := by omega
    have hlt : l[i] < n := by
      have h1 : (l.takeWhile fun x => decide (x < n))[i] = l[i] := by
        have hp := List.takeWhile_prefix (fun x => decide (x < n)) (l := l)
        exact hp.getElem hi
      have h2 := List.all_takeWhile (p := fun x => decide (x < n)) (l := l)
      rw [List.all_eq_true] at h2
      have h3 := h2 _ (List.getElem_mem hi)
      rw [h1] at h3
      simpa using h3
    have e : rd l (i : Int) = l[i] := by simp [rd, hil]
    refine Ev.succ ?_
    simp only [spec_l1Put.l0, e]
    rw [wnext i (by omega)]
    exact Ev.pos (by omega) (Ev.pos (by omega) (Ev.pos hlt (ih (i + 1) (by omega))))
theorem putI_ev (l : List Int) (n : Int) (hl : l.length ≤ 1000000) (hn : n ∉ l) : Ev (fun k => spec_l1Put.f k l n) (putI l n) := putI_l0 l n hl hn (l.takeWhile fun x => decide (x < n)).length 0 (by omega)
theorem srtI_pw (zs : List Int) : (srtI zs).Pairwise (· ≤ ·) := (List.pairwise_mergeSort (le := fun x y : Int => decide (x ≤ y)) (fun a b c h1 h2 => by simp at *; omega) (fun a b => by simp; omega) zs).imp (fun h => by simpa using h)
theorem putI_perm (l : List Int) (n : Int) : (putI l n).Perm (l ++ [n]) := by
  have htd := List.takeWhile_append_dropWhile (p := fun x => decide (x < n)) (l := l)
  conv => rhs; rw [← htd]
  unfold putI
  rw [List.append_assoc]
  exact List.Perm.append_left _ (List.perm_append_comm (l₁ := [n]))
theorem putI_pw (l : List Int) (n : Int) (h : l.Pairwise (· ≤ ·)) : (putI l n).Pairwise (· ≤ ·) := by
  have htd := List.takeWhile_append_dropWhile (p := fun x => decide (x < n)) (l := l)
  rw [← htd] at h
  obtain ⟨h1, h2, h3⟩ := List.pairwise_append.1 h
  have ht : ∀ x ∈ l.takeWhile fun x => decide (x < n), x < n := fun x hx => by
    have := List.all_takeWhile (p := fun x => decide (x < n)) (l := l)
    rw [List.all_eq_true] at this
    simpa using this x hx
  have hd : ∀ x ∈ l.dropWhile fun x => decide (x < n), n ≤ x := fun x hx => by
    have h0 : (l.dropWhile fun x => decide (x < n)) ≠ [] := List.ne_nil_of_mem hx
    have h4 := List.head_dropWhile_not (p := fun x => decide (x < n)) h0
    have h5 : n ≤ (l.dropWhile fun x => decide (x < n)).head h0 := by simpa using h4
    obtain ⟨y, ys, hy⟩ := List.exists_cons_of_ne_nil h0
    simp only [hy, List.head_cons] at h5
    rw [hy] at h2 hx
    rcases List.mem_cons.1 hx with rfl | hx
    · exact h5
    · have := (List.pairwise_cons.1 h2).1 x hx
      omega
  unfold putI
  refine List.pairwise_append.2 ⟨h1, List.pairwise_cons.2 ⟨hd, h2⟩, fun a ha b hb => ?_⟩
  have := ht a ha
  rcases List.mem_cons.1 hb with rfl | hb
  · omega
  · have := hd b hb
    omega
theorem put_srt (xs : List Int) (n : Int) : putI (srtI xs) n = srtI (xs ++ [n]) :=
  List.Perm.eq_of_pairwise (fun a b _ _ h1 h2 => by omega) (putI_pw _ _ (srtI_pw xs)) (srtI_pw _) ((putI_perm _ _).trans (((srtI_perm xs).append_right [n]).trans (srtI_perm _).symm))
theorem st_eq {s x y : ByteArray} (h1 : stP s x = true) (h2 : stP s y = true) (h : x.size = y.size) : x = y := by
  have a := (st_size h1).2.1
  have b := (st_size h2).2.1
  rw [h] at a
  exact (tl_eq x y).1 (a.symm.trans b)
theorem rowS_new {ws : List ByteArray} (hv : VW ws) (s : ByteArray) (i : Nat) (hi : i < ws.length) (h : stP s ws[i] = true) : ((ws[i].size : Nat) : Int) ∉ rowS (ws.take i) s := fun hm => by
  obtain ⟨x, hx, he⟩ := List.mem_map.1 hm
  obtain ⟨hxm, hxs⟩ := List.mem_filter.1 hx
  have e := st_eq hxs h (by omega)
  subst e
  obtain ⟨j, hj, hjx⟩ := List.getElem_of_mem hxm
  rw [List.getElem_take] at hjx
  have hjl : j < i := by rw [List.length_take] at hj; omega
  have := List.pairwise_iff_getElem.1 hv.ss j i (by omega) hi hjl
  rw [hjx] at this
  exact List.lt_irrefl _ this
theorem ext_mid (p : ByteArray) (a n : Nat) : (p.extract a p.size).extract 0 n = p.extract a (a + n) := lw_inj (by
  have e : ∀ (b : ByteArray) (i j : Nat), lw (b.extract i j) = (lw b).extract i j := fun b i j => by unfold lw; rw [ByteArray.data_extract, Array.toList_extract]
  rw [e, e, e, List.extract_eq_take_drop, List.extract_eq_take_drop, List.extract_eq_take_drop]
  simp only [Nat.sub_zero, List.drop_zero]
  rw [List.take_take, ← lw_length]
  by_cases h : n ≤ (lw p).length - a
  · rw [Nat.min_eq_left h, Nat.add_sub_cancel_left]
  · rw [Nat.min_eq_right (by omega), Nat.add_sub_cancel_left, List.take_of_length_le (by rw [List.length_drop]; omega), List.take_of_length_le (by rw [List.length_drop]; omega)])
theorem stands_eq (p x : ByteArray) (a : Nat) (ha : a ≤ p.size) (hp : p.size ≤ 60) (hx : x.size ≤ 12) (h0 : ¬ x.toList = []) : spec_l3Stands.f p x (a : Int) = some (stP (p.extract a p.size) x) := by
  have hz : x.size ≠ 0 := fun e => by
    have := (lw_inj (by have := lw_length x; rw [e] at this; rw [List.length_eq_zero_iff.1 this]; rfl) : x = ByteArray.empty)
    subst this
    exact absurd h0 (by simp)
  have hs : (p.extract a p.size).size = p.size - a := by rw [ByteArray.size_extract]; omega
  have ew : wrap64 ((a : Int) + (x.size : Int)) = ((a + x.size : Nat) : Int) := by unfold wrap64; omega
  unfold spec_l3Stands.f
  rw [ew]
  by_cases h : a + x.size ≤ p.size
  · rw [if_pos (by omega), if_pos (by omega), if_pos (by omega)]
    simp only [Int.toNat_natCast]
    refine congrArg some ?_
    unfold stP begW
    rw [decide_eq_true hz, Bool.true_and, hs, decide_eq_true (show x.size ≤ p.size - a by omega), Bool.true_and, ext_mid]
    rw [Bool.eq_iff_iff, beq_iff_eq, decide_eq_true_eq]
  · rw [if_neg (by omega)]
    refine congrArg some ?_
    unfold stP begW
    rw [hs, decide_eq_false (show ¬ x.size ≤ p.size - a by omega), Bool.false_and, Bool.and_false]
theorem matches_l0 {ws : List ByteArray} (hv : VW ws) (p : ByteArray) (a : Nat) (ha : a ≤ p.size) (hp : p.size ≤ 60) : ∀ (n i : Nat), i + n = ws.length → Ev (fun k => spec_l3Matches.l0 k ws p (a : Int) (srtI (rowS (ws.take i) (p.extract a p.size))) (i : Int)) (rowAt ws p a) := by
  have h40 := hv.len
  intro n
  induction n with
  | zero =>
    intro i h
    refine Ev.succ ?_
    simp only [spec_l3Matches.l0]
    rw [List.take_of_length_le (by omega)]
    exact Ev.neg (by omega) (Ev.pure _)
  | succ n ih =>
    intro i h
    have hi : i < ws.length := by omega
    have hr := rowS_take ws (p.extract a p.size) i hi
    have e : rdOf ByteArray.empty ws (i : Int) = ws[i] := by simp [rdOf, hi]
    rw [e] at hr
    have hl := rowS_length (ws.take i) (p.extract a p.size)
    rw [List.length_take] at hl
    have hz := (hv.ok _ (List.getElem_mem hi)).1
    have hih := ih (i + 1) (by omega)
    rw [hr] at hih
    refine Ev.succ ?_
    simp only [spec_l3Matches.l0, e]
    rw [wnext i (by omega)]
    refine Ev.pos (by omega) (Ev.pos (by omega) ?_)
    by_cases h0 : ws[i].toList = []
    · have hst : stP (p.extract a p.size) ws[i] = false := by
        have : ws[i].size = 0 := size0_of (by simp [h0])
        simp [stP, this]
      rw [hst] at hih
      exact Ev.pos h0 (by simpa using hih)
    · refine Ev.neg h0 (Ev.bindc (stands_eq p ws[i] a ha hp hz h0) ?_)
      cases hst : stP (p.extract a p.size) ws[i] with
      | false =>
        rw [hst] at hih
        exact Ev.neg (by decide) (by simpa using hih)
      | true =>
        rw [hst, if_pos rfl] at hih
        refine Ev.pos rfl (Ev.bind (putI_ev _ _ (by rw [srtI_length]; omega) (fun hm => rowS_new hv _ i hi hst ((srtI_perm _).mem_iff.1 hm))) ?_)
        rw [put_srt]
        exact hih
theorem matches_ev {ws : List ByteArray} (hv : VW ws) (p : ByteArray) (a : Nat) (ha : a ≤ p.size) (hp : p.size ≤ 60) : Ev (fun k => spec_l3Matches.f k ws p (a : Int)) (rowAt ws p a) := by
  unfold spec_l3Matches.f
  have h := matches_l0 hv p a ha hp ws.length 0 (by omega)
  rw [show srtI (rowS (ws.take 0) (p.extract a p.size)) = [] by simp [rowS, srtI]] at h
  exact h
end Go.Proofs.YtcgcicngfemnlaaGreatDoor.Q
namespace Go.Proofs.YtcgcicngfemnlaaGreatDoor.Q
open Go.RowKit Go.Proofs.YtcgcicngfemnlaaGreatDoorW.PrintWords Go.Proofs.YtcgcicngfemnlaaGreatDoorW.PrintLast
def wayN (a : Nat) (m : List Int) (n : Int) : List Int := m.set a (wrap64 (rd m (a : Int) + rd m ((a : Int) + n)))
def waysF (ws : List ByteArray) (p : ByteArray) : Nat → List Int → List Int
  | 0, m => m
  | a + 1, m => waysF ws p a ((rowAt ws p a).foldl (wayN a) m)
def Sm (m : List Int) : Prop := ∀ x ∈ m, wrap64 x = x
theorem wrap_idem (x : Int) : wrap64 (wrap64 x) = wrap64 x := by unfold wrap64; omega
theorem Sm.set {m : List Int} (h : Sm m) (a : Nat) (x : Int) : Sm (m.set a (wrap64 x)) := fun y hy => by
  rcases List.mem_or_eq_of_mem_set hy with hy | rfl
  · exact h y hy
  · exact wrap_idem x
theorem way_split (a : Nat) (mb : List Int × List Int) (n : Int) (hs : Sm mb.1) (ha : a < mb.1.length) : (splitN a mb n).1 = wayN a mb.1 n := by
  unfold splitN wayN
  by_cases h : rd mb.1 ((a : Int) + n) = 0
  · rw [if_pos h, h, Int.add_zero, rdI_nat mb.1 ha, hs _ (List.getElem_mem ha), List.set_getElem_self]
  · rw [if_neg h]
theorem wayN_len (a : Nat) (m : List Int) (n : Int) : (wayN a m n).length = m.length := by simp [wayN]
theorem wayN_sm {a : Nat} {m : List Int} (h : Sm m) (n : Int) : Sm (wayN a m n) := h.set a _
theorem fold_ways (a : Nat) : ∀ (row : List Int) (mb : List Int × List Int), Sm mb.1 → a < mb.1.length → (row.foldl (splitN a) mb).1 = row.foldl (wayN a) mb.1 ∧ Sm (row.foldl (wayN a) mb.1) ∧ (row.foldl (wayN a) mb.1).length = mb.1.length
  | [], mb, hs, ha => ⟨rfl, hs, rfl⟩
  | n :: t, mb, hs, ha => by
    have e := way_split a mb n hs ha
    have hl := (splitN_len a mb n).1
    have ih := fold_ways a t (splitN a mb n) (by rw [e]; exact wayN_sm hs n) (by omega)
    rw [e] at ih
    simp only [List.foldl_cons]
    exact ⟨ih.1, ih.2.1, ih.2.2.trans (wayN_len a mb.1 n)⟩
theorem ways_split (ws : List ByteArray) (p : ByteArray) : ∀ (a : Nat) (mb : List Int × List Int), Sm mb.1 → a ≤ mb.1.length → (splitsF ws p a mb).1 = waysF ws p a mb.1
  | 0, mb, hs, ha => rfl
  | a + 1, mb, hs, ha => by
    obtain ⟨h1, h2, h3⟩ := fold_ways a (rowAt ws p a) mb hs (by omega)
    show (splitsF ws p a _).1 = waysF ws p a _
    rw [ways_split ws p a _ (by rw [h1]; exact h2) (by rw [h1, h3]; omega), h1]
def ways0 (p : ByteArray) : List Int := (List.replicate (p.size + 1) 0).set p.size 1
theorem ways0_sm (p : ByteArray) : Sm (ways0 p) := fun x hx => by
  rcases List.mem_or_eq_of_mem_set hx with hx | rfl
  · rw [(List.mem_replicate.1 hx).2]; unfold wrap64; omega
  · unfold wrap64; omega
theorem splitsW_ways (ws : List ByteArray) (p : ByteArray) : (splitsW ws p).1 = waysF ws p p.size (ways0 p) := ways_split ws p p.size (splits0 p) (ways0_sm p) (by simp [splits0])
theorem ways_l1 {ws : List ByteArray} (p : ByteArray) (hp : p.size ≤ 60) (a : Nat) (ha : a < p.size) (row : List Int) (hrl : row.length ≤ 40) (hrow : ∀ n ∈ row, 1 ≤ n ∧ n + a ≤ p.size) (m0 : List Int) (r : List Int)
    (hn : Ev (fun k => spec_l3Ways.l0 k ws p (row.foldl (wayN a) m0) ((a : Int) - 1)) r) : ∀ (n i : Nat) (m : List Int), i + n = row.length → m.length = p.size + 1 → m = (row.take i).foldl (wayN a) m0 → Ev (fun k => spec_l3Ways.l1 k ws p m (a : Int) row (i : Int)) r := by
  intro n
  induction n with
  | zero =>
    intro i m h hl he
    rw [List.take_of_length_le (by omega)] at he
    refine Ev.succ ?_
    simp only [spec_l3Ways.l1]
    rw [wprev a (by omega), he]
    exact Ev.neg (by omega) hn
  | succ n ih =>
    intro i m h hl he
    have hi : i < row.length := by omega
    have hm := hrow _ (List.getElem_mem hi)
    have ew : wrap64 ((a : Int) + row[i]) = (a : Int) + row[i] := by unfold wrap64; omega
    refine Ev.succ ?_
    simp only [spec_l3Ways.l1, rdI_nat row hi, Int.toNat_natCast]
    rw [ew, wnext i (by omega)]
    refine Ev.pos (by omega) (Ev.pos (by omega) (Ev.pos (by omega) (Ev.pos (by omega) (Ev.pos (by omega) (Ev.pos (by omega) (ih (i + 1) _ (by omega) (by simpa using hl) ?_))))))
    rw [List.take_succ_eq_append_getElem hi, List.foldl_append, ← he]
    rfl
theorem fold_wlen (a : Nat) : ∀ (row : List Int) (m : List Int), (row.foldl (wayN a) m).length = m.length
  | [], m => rfl
  | n :: t, m => (fold_wlen a t (wayN a m n)).trans (wayN_len a m n)
theorem ways_l0 {ws : List ByteArray} (hv : VW ws) (p : ByteArray) (hp : p.size ≤ 60) : ∀ (a : Nat) (m : List Int), a ≤ p.size → m.length = p.size + 1 → Ev (fun k => spec_l3Ways.l0 k ws p m ((a : Int) - 1)) (waysF ws p a m)
  | 0, m, ha, hl => by
    refine Ev.succ ?_
    simp only [spec_l3Ways.l0]
    exact Ev.neg (by omega) (Ev.pure _)
  | a + 1, m, ha, hl => by
    have ih := ways_l0 hv p hp a ((rowAt ws p a).foldl (wayN a) m) (by omega) (by rw [fold_wlen]; exact hl)
    refine Ev.succ ?_
    simp only [spec_l3Ways.l0]
    rw [show ((a + 1 : Nat) : Int) - 1 = (a : Int) by omega]
    exact Ev.pos (by omega) (Ev.bind (matches_ev hv p a (by omega) hp) (ways_l1 p hp a (by omega) (rowAt ws p a) (rowAt_length hv p a) (fun n hn => rowAt_mem hn) m _ ih (rowAt ws p a).length 0 m (by omega) hl rfl))
theorem ways_ev {ws : List ByteArray} (hv : VW ws) (p : ByteArray) (hp : p.size ≤ 60) : Ev (fun k => spec_l3Ways.f k ws p) (splitsW ws p).1 := by
  unfold spec_l3Ways.f
  have ew : wrap64 ((p.size : Int) + 1) = ((p.size + 1 : Nat) : Int) := by unfold wrap64; omega
  rw [ew, splitsW_ways]
  simp only [Int.toNat_natCast]
  refine Ev.pos (by omega) (Ev.pos (by omega) (Ev.bind (Ev.pure _) (Ev.pos (by omega) (Ev.pos (by simp; omega) ?_))))
  rw [wprev p.size (by omega)]
  exact ways_l0 hv p hp p.size (ways0 p) (Nat.le_refl _) (by simp [ways0])
theorem splits_len (ws : List ByteArray) (p : ByteArray) : ∀ (a : Nat) (mb : List Int × List Int), (splitsF ws p a mb).1.length = mb.1.length ∧ (splitsF ws p a mb).2.length = mb.2.length
  | 0, mb => ⟨rfl, rfl⟩
  | a + 1, mb => by
    have h := foldN_len a (rowAt ws p a) mb
    have ih := splits_len ws p a ((rowAt ws p a).foldl (splitN a) mb)
    exact ⟨ih.1.trans h.1, ih.2.trans h.2⟩
theorem splitsW_len (ws : List ByteArray) (p : ByteArray) : (splitsW ws p).1.length = p.size + 1 ∧ (splitsW ws p).2.length = p.size + 1 := by
  have h := splits_len ws p p.size (splits0 p)
  exact ⟨h.1.trans (by simp [splits0]), h.2.trans (by simp [splits0])⟩
theorem splits_of {ws : List ByteArray} (hv : VW ws) (p : ByteArray) (h : impl_Trie_standing.f (trieW ws) p = some (standW ws p)) : impl_Trie_splits.f (trieW ws) p = some (splitsW ws p) := by
  unfold impl_Trie_standing.f at h
  unfold impl_Trie_splits.f
  split at h
  case isFalse => cases h
  rename_i hc
  rw [if_pos hc, wordsV_trie hv]
end Go.Proofs.YtcgcicngfemnlaaGreatDoor.Q
namespace Go.Proofs.YtcgcicngfemnlaaGreatDoor.Q
open Go.ChangeShapes Go.WideShapes Go.Deep Go.RowKit Go.Proofs.YtcgcicngfemnlaaGreatDoorW.PrintWords Go.Proofs.YtcgcicngfemnlaaGreatDoorW.PrintLast Go.Proofs.YtcgcicngfemnlaaGreatDoorW.PrintMore
def I64 (n : Int) : Prop := -9223372036854775808 ≤ n ∧ n ≤ 9223372036854775807
theorem I64_of {n : Int} (h : (Lit.int .i64 n).wf = true) : I64 n := by
  have h1 : IntKind.i64.min = -9223372036854775808 := by decide
  simp [Lit.wf, h1] at h
  exact h
set_option maxRecDepth 100000 in
theorem open_trie {H : Type} {enc : TypeId × Value → H} {w : World} {base b0 : Nat} {spare : Nat → Bool} {held : Bool} {r : Reach} {v : Value} {d : DataW H} {p : List MemPlace} (hv : Value.okWide Tryz.prog w r b0 24 v) (h : DataW.Trod enc Tryz.prog w base spare held 24 v d p) :
    ∃ (A : Option Addr) (c : Nat) (l : List S88), v = .agg #[.slice A l.length c] ∧ Kd.C k88 w A l.length l ∧ l.length ≤ c ∧ l.length ≤ maxLen ∧ ∀ x ∈ l, I64 x.f0 ∧ I64 x.f1 := by
  obtain ⟨cs, rfl, hsz⟩ := okWide_struct Tryz.underlying24 hv
  have hct : Tryz.prog.cellsOf 24 = 1 := by kernel_rfl
  have hsz1 : cs.size = 1 := hsz.trans hct
  obtain ⟨c0, rfl⟩ : ∃ c0, cs = #[c0] := ⟨cs[0], by
    apply Array.ext
    · simp [hsz1]
    · intro i h1 h2
      have : i = 0 := by omega
      subst this; rfl⟩
  obtain ⟨fuel, hf⟩ := h
  obtain ⟨xs, n, _, hx, _, hlen, hg⟩ := DataW.trod_struct Tryz.underlying24 hf
  have h0 := hg 0 _ rfl
  have hc1 : Tryz.prog.cellsOf 22 = 1 := by kernel_rfl
  simp only [Value.cells, List.drop_zero, hc1] at h0
  have h0' : DataW.trod enc Tryz.prog w base spare held n 22 [c0] = xs[0]? := h0
  rw [List.getElem?_eq_getElem (show 0 < xs.length by rw [hlen]; decide)] at h0'
  have hC : Tryz.prog.cellsOf 88 = 3 := by kernel_rfl
  have i1 : Tryz.prog.cellsOf 3 = 1 := by kernel_rfl
  have i2 : Tryz.prog.cellsOf 4 = 1 := by kernel_rfl
  rcases open_slice Tryz.underlying22 h0' with ⟨e, _⟩ | ⟨a, len, cap, m, n', D, Pl, e, _, hl, hm, hmm, _, hi⟩
  · injection e with e
    subst e
    exact ⟨none, 0, [], rfl, ⟨rfl, by decide, fun h => absurd h (by decide)⟩, Nat.le_refl _, Nat.zero_le _, fun x hx => by cases hx⟩
  · injection e with e
    subst e
    have hlm : len ≤ m := by rw [hmm]; split <;> omega
    have hex : ∀ i, i < len → ∃ x : S88, I64 x.f0 ∧ I64 x.f1 ∧ ∀ j u, [Value.int .i64 x.f0, .int .i64 x.f1, .bool x.f2][j]? = some u → w.cell? (a.add (i * 3 + j)) = some u := by
      intro i hil
      obtain ⟨cs', hc, ht'⟩ := hi i (by omega)
      rw [hC] at hc
      obtain ⟨ys, n2, _, _, hcl, hyl, hfl⟩ := DataW.trod_struct Tryz.underlying88 ht'
      obtain ⟨_, hcl3, hat⟩ := World.cells?_some hc
      have f0 := hfl 0 _ rfl
      have f1 := hfl 1 _ rfl
      have f2 := hfl 2 _ rfl
      rw [hC] at hcl
      obtain ⟨u0, u1, u2, rfl⟩ : ∃ u0 u1 u2, cs' = [u0, u1, u2] := by
        match cs', hcl with
        | [u0, u1, u2], _ => exact ⟨u0, u1, u2, rfl⟩
      replace f0 : DataW.trod enc Tryz.prog w base spare held n2 3 ((List.drop 0 [u0, u1, u2]).take (Tryz.prog.cellsOf 3)) = ys[0]? := f0
      rw [i1] at f0
      replace f0 : DataW.trod enc Tryz.prog w base spare held n2 3 [u0] = ys[0]? := f0
      replace f1 : DataW.trod enc Tryz.prog w base spare held n2 3 ((List.drop 1 [u0, u1, u2]).take (Tryz.prog.cellsOf 3)) = ys[1]? := f1
      rw [i1] at f1
      replace f1 : DataW.trod enc Tryz.prog w base spare held n2 3 [u1] = ys[1]? := f1
      replace f2 : DataW.trod enc Tryz.prog w base spare held n2 4 ((List.drop 2 [u0, u1, u2]).take (Tryz.prog.cellsOf 4)) = ys[2]? := f2
      rw [i2] at f2
      replace f2 : DataW.trod enc Tryz.prog w base spare held n2 4 [u2] = ys[2]? := f2
      rw [List.getElem?_eq_getElem (show 0 < ys.length by rw [hyl]; decide)] at f0
      rw [List.getElem?_eq_getElem (show 1 < ys.length by rw [hyl]; decide)] at f1
      rw [List.getElem?_eq_getElem (show 2 < ys.length by rw [hyl]; decide)] at f2
      obtain ⟨x0, e0, _, w0⟩ := DataW.trod_int Tryz.underlying3 f0
      obtain ⟨x1, e1, _, w1⟩ := DataW.trod_int Tryz.underlying3 f1
      obtain ⟨x2, e2, _⟩ := DataW.trod_bool Tryz.underlying4 f2
      injection e0 with e0
      injection e1 with e1
      injection e2 with e2
      subst e0; subst e1; subst e2
      refine ⟨⟨x0, x1, x2⟩, I64_of w0, I64_of w1, fun j u hj => ?_⟩
      obtain ⟨hj3, hju⟩ := List.getElem?_eq_some_iff.1 hj
      rw [← Go.Deep.add_add, hat j (show j < 3 from hj3)]
      exact hj
    obtain ⟨f, hf⟩ : ∃ f : Nat → S88, ∀ i, i < len → I64 (f i).f0 ∧ I64 (f i).f1 ∧ ∀ j u, [Value.int .i64 (f i).f0, .int .i64 (f i).f1, .bool (f i).f2][j]? = some u → w.cell? (a.add (i * 3 + j)) = some u :=
      ⟨fun i => if h : i < len then Classical.choose (hex i h) else ⟨0, 0, false⟩, fun i h => by simp only [h, dite_true]; exact Classical.choose_spec (hex i h)⟩
    have hfl : ((List.range len).map f).length = len := by simp
    refine ⟨some a, cap, (List.range len).map f, by rw [hfl], ?_, by rw [hfl]; exact hl, by rw [hfl]; omega, ?_⟩
    · rw [hfl]
      refine ⟨by simp, by unfold maxLen at hm; omega, fun _ => ⟨a, rfl, fun j p hj => ?_⟩⟩
      obtain ⟨hjl, rfl⟩ := List.getElem?_eq_some_iff.1 hj
      rw [hfl] at hjl
      refine ⟨_, rfl, k88_mk w _, fun i u hu => ?_⟩
      simp only [List.getElem_map, List.getElem_range] at hu
      exact (hf j hjl).2.2 i u hu
    · intro x hx
      obtain ⟨i, hi, rfl⟩ := List.mem_map.1 hx
      exact ⟨(hf i (List.mem_range.1 hi)).1, (hf i (List.mem_range.1 hi)).2.1⟩
end Go.Proofs.YtcgcicngfemnlaaGreatDoor.Q
namespace Go.Proofs.YtcgcicngfemnlaaGreatDoor.Q
open Go.RowKit Go.Proofs.YtcgcicngfemnlaaGreatDoorW.PrintWords Go.Proofs.YtcgcicngfemnlaaGreatDoorW.PrintLast
theorem both_CountSplits (l0 : List IN) (a1 : ByteArray) : ∃ r, Ev (fun k => spec_CountSplits.f k l0 a1) r ∧ Ev (fun k => impl_CountSplits.f k l0 a1) r := by
  unfold spec_CountSplits.f impl_CountSplits.f
  rcases pass_cases l0 a1 with ⟨h1, h2⟩ | ⟨ws, hv, rfl, hs, h1, h2, h3⟩
  · exact ⟨(0, false), Ev.bind h2 (Ev.neg (by decide) (Ev.pure _)), Ev.bind h1 (Ev.neg (by decide) (Ev.pure _))⟩
  · have hw := ways_ev hv a1 hs
    have hl := (splitsW_len ws a1).1
    have h4 := splits_of hv a1 h3
    exact ⟨(rd (splitsW ws a1).1 0, true), Ev.bind h2 (Ev.pos rfl (Ev.bind (specWords hv) (Ev.bind hw (Ev.pos (by omega) (Ev.pure _))))), Ev.bind h1 (Ev.pos rfl (Ev.bindc h4 (Ev.pos (by omega) (Ev.pure _))))⟩
theorem pure_FnExactCountSplits (l0 : List LN) (a1 : ByteArray) (hl_l0 : l0.length ≤ maxLen) (hI_l0 : ∀ x ∈ l0, I64 x.f0 ∧ I64 x.f1) (hw_a1 : a1.size ≤ 140737488351232) : ∃ k, laws_FnExactCountSplits.f k l0 a1 = some true := by
  refine Ev.ex ?_
  unfold laws_FnExactCountSplits.f
  by_cases hs1 : (a1.size : Int) > 1048576
  · exact Ev.pos hs1 (Ev.pure _)
  refine Ev.neg hs1 ?_
  by_cases h_l0 : l0.length ≤ 1048576
  case neg => exact Ev.bindc (szTrie_eq l0 (by unfold maxLen at hl_l0; omega)) (by rw [if_neg h_l0]; exact Ev.pos (by decide) (Ev.pure _))
  refine Ev.bindc (szTrie_eq l0 (by unfold maxLen at hl_l0; omega)) ?_
  rw [if_pos h_l0]
  refine Ev.neg (by omega) ?_
  have ht_l0 := toTrie_ev l0 (by omega)
  have hc_l0 : (cv l0).length ≤ 1048576 := by rw [cv_length]; omega
  obtain ⟨r, e1, e2⟩ := both_CountSplits (cv l0) a1
  refine (Ev.bind ht_l0 (Ev.bind e1 (Ev.bind ht_l0 (Ev.bind e2 ?_))))
  refine Ev.pos rfl (Ev.succ ?_)
  simp only [laws_FnExactCountSplits.j0]
  exact Ev.neg (by simp) (Ev.bind ht_l0 (Ev.bind (eqTrie_ev _ _ hc_l0) (Ev.pos (by simp) (Ev.pure _))))
end Go.Proofs.YtcgcicngfemnlaaGreatDoor.Q
namespace Go.Proofs.YtcgcicngfemnlaaGreatDoor.Pure
theorem FnExactCountSplits (l0 : List Q.LN) (a1 : ByteArray) (hl_l0 : l0.length ≤ maxLen) (hI_l0 : ∀ x ∈ l0, Q.I64 x.f0 ∧ Q.I64 x.f1) (hw_a1 : a1.size ≤ 140737488351232) : ∃ k, Q.laws_FnExactCountSplits.f k l0 a1 = some true := Q.pure_FnExactCountSplits l0 a1 hl_l0 hI_l0 hw_a1
end Go.Proofs.YtcgcicngfemnlaaGreatDoor.Pure
namespace Go.Proofs.YtcgcicngfemnlaaGreatDoor.fnExactCountSplits
open Go.ChangeShapes Go.WideShapes Go.ChangeAt Go.RowKit
open Go.ChangeMaps (open_string shut_string)
set_option linter.unusedVariables false
theorem own : ownKnob Tryz.prog.godebug = none := by kernel_rfl
theorem laidOut : laidOutB Tryz.prog = true := by kernel_rfl
set_option maxRecDepth 100000 in
theorem lifted (os : Os) (started : os.Started) (H : Type) (enc : TypeId × Value → H) :
    ReturnsInHanded {} Tryz.checked os 9 .any (fun w args => (Rows.fnExactCountSplitsSpec.pre enc Tryz.prog Tryz.f9 Rows.fnExactCountSplitsRow.domain false w args ∧ laidMetH Tryz.prog Rows.fnExactCountSplitsRow.laid w) ∧ sizedMet enc Tryz.prog Tryz.f9 (OpenSpec.ofChange Rows.fnExactCountSplitsSpec) false w args) (Rows.fnExactCountSplitsSpec.post enc Tryz.prog Tryz.f9 false true false false) := by
  refine returnsInHanded_of_change_and (C := Tryz.checked) (X := fun w _ => laidMetH Tryz.prog Rows.fnExactCountSplitsRow.laid w) (fun _ _ _ hh h => h.of_heap hh) own started (by kernel_rfl) Tryz.func9
    (ChangeSpec.witness_shaped (enc := enc) (C := Tryz.checked) (os := os) (X := fun w _ => laidMetH Tryz.prog Rows.fnExactCountSplitsRow.laid w) false (World.laidAll Tryz.prog os Rows.fnExactCountSplitsRow.laid) #[.agg #[.slice none 0 0], .string ByteArray.empty] 8 (World.laidAll_os _ _ _)
      (World.shaped_of_ZipB (by kernel_rfl) (by kernel_rfl)) (by kernel_rfl) (by kernel_rfl) (by kernel_rfl)
      (by rw [MakeChecks.laidMetH_plain _ _ _ (by kernel_rfl)]; exact laidMet_laidAll _ (by kernel_rfl) (by kernel_rfl))) ?_
  intro W base args ds gs before hval0 hW hcnd hsz0 hL _
  have hsz : (DataW.weightsEach Tryz.prog (Tryz.f9.params.toList ++ Rows.fnExactCountSplitsSpec.plain.varTypes Tryz.prog) (ds ++ gs)).all (· ≤ reachBytes) = true := hsz0
  have hval : ∀ (j : Nat) t v, Tryz.f9.params[j]? = some t → args[j]? = some v → Value.okWide Tryz.prog W .any base t v := hval0
  have hW' := hW
  obtain ⟨p, q, hA0, hV, rfl, hfz, hnd⟩ := hW
  have hA : DataW.TrodAll enc Tryz.prog W 0 (fun _ => true) true Tryz.f9.params.toList args.toList ds p := hA0
  rw [Tryz.params9] at hA hval hsz
  obtain ⟨v0, vs0, d0, ds0, p0, q0, hargs, rfl, rfl, h0, r0⟩ := trodAll_cons hA
  obtain ⟨v1, vs1, d1, ds1, p1, q1, rfl, rfl, rfl, h1, r1⟩ := trodAll_cons r0
  obtain ⟨rfl, rfl, rfl⟩ := trodAll_nil r1
  obtain rfl : args = #[v0, v1] := by cases args; simp_all
  obtain ⟨rfl, rfl⟩ := trodVars_none hV
  have k0 := h0
  have lt0 : ∀ x ∈ p0, x.block < W.heap.size := by obtain ⟨m, hm⟩ := k0; exact DataW.trod_lt m _ _ _ hm
  obtain ⟨A0, c0, l0, rfl, hC0, hc0, hl0, hI0⟩ := Q.open_trie (hval 0 24 v0 rfl rfl) h0
  obtain ⟨a1, rfl, rfl, rfl, y1⟩ := open_string Tryz.underlying9 (hval 1 9 v1 rfl rfl) h1
  have w1 : a1.size ≤ 140737488351232 := by
    have z := sized_string hsz (j := 1) (t := 9) rfl rfl
    rw [Array.length_toList] at z
    exact z
  clear hA0 hval0 hsz0 hsz
  obtain ⟨k, hk⟩ := Pure.FnExactCountSplits l0 a1 hl0 hI0 w1
  refine (Q.laws_FnExactCountSplits.calls k A0 c0 l0 a1 true W hC0 hc0 hk).mono fun e W' ⟨he, bel0⟩ => ?_
  have bel : Below W.heap.size W W' := bel0
  subst he
  exact ⟨_, rfl, _, _, _, [], _, [], hW', trodAll_mk1 (shut_bool Tryz.underlying4 _), (trodAll_cons_mk (Below.trod laidOut (by kernel_rfl) (of_decide_eq_true (by kernel_rfl)) k0 bel lt0) (trodAll_cons_mk (shut_string Tryz.underlying9 y1) trodAll_mk0)), rfl, bel.frame _, fun h => by cases h⟩
theorem over : Rows.fnExactCountSplitsRow.holds Tryz.pinned (OpenSpec.ofChange Rows.fnExactCountSplitsSpec) :=
  OpenClaim.holds_of_wide 9 Tryz.f9 rfl rfl rfl rfl rfl rfl rfl ⟨rfl, rfl, rfl, rfl, rfl⟩ rfl rfl rfl rfl rfl (by kernel_rfl) Tryz.func9 (by kernel_rfl)
    (of_decide_eq_true (by kernel_rfl)) (by unfold Func.isWrapper; first | (rw [if_pos (by decide +kernel)]; kernel_rfl) | (rw [if_neg (by decide +kernel)]; exact ⟨rfl, rfl⟩))
    (fun os started H enc _ => lifted os started H enc)
set_option maxRecDepth 100000 in
theorem proved : Rows.FnExactCountSplitsCardSaid :=
  Claim7.holds_tied_plain_at .later [] [.data, .pinned] true (true, "b212f0c90e0ea54b345c2e0da8ba15cc6402b59767f45cf131e42dffde9db4d8") false over (fun _ h => by cases h) (by kernel_rfl) (fun _ h => by cases h) fnExactCountSplits_row_tie rfl ⟨rfl, rfl⟩ (by kernel_rfl) rfl
    (fun f fn hf hfn => by
      obtain rfl : f = 9 := Option.some.inj ((show Tryz.prog.funcNamed Tryz.f9.name = some 9 by kernel_rfl).symm.trans hf) |>.symm
      obtain rfl : fn = Tryz.f9 := (Option.some.inj (Tryz.func9.symm.trans hfn)).symm
      exact ⟨by kernel_rfl, fun j t ht => by
        rw [Tryz.params9] at ht
        have hm : t ∈ [24, 9] := by simpa using Array.mem_of_getElem? ht
        have hall : ([24, 9].all fun u => !Tryz.prog.wantsStandIn u) = true := by kernel_rfl
        exact (show Tryz.prog.wantsStandIn t = false by simpa using List.all_eq_true.1 hall t hm)⟩)
    (by kernel_rfl)
end Go.Proofs.YtcgcicngfemnlaaGreatDoor.fnExactCountSplits
namespace Go.Proofs.YtcgcicngfemnlaaGreatDoor
theorem fnExactCountSplits_holds : Rows.FnExactCountSplitsCardSaid := fnExactCountSplits.proved
end Go.Proofs.YtcgcicngfemnlaaGreatDoor
