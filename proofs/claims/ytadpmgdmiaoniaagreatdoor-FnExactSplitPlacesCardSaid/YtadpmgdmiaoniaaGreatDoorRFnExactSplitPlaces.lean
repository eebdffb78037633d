/- The law FnExactSplitPlaces: for every input the call answers true and leaves its arguments as they were. -/
import Derived.Test.YtadpmgdmiaoniaaGreatDoorA0
import Derived.Test.YtadpmgdmiaoniaaGreatDoorA1
import Derived.Test.YtadpmgdmiaoniaaGreatDoorA2
import Derived.Test.YtadpmgdmiaoniaaGreatDoorA3
import Derived.Test.YtadpmgdmiaoniaaGreatDoorA4
import Derived.Test.YtadpmgdmiaoniaaGreatDoorAwWords
import Derived.Test.YtadpmgdmiaoniaaGreatDoorAwLast
import Derived.Test.YtadpmgdmiaoniaaGreatDoorAwTab
import Derived.Test.YtadpmgdmiaoniaaGreatDoorAwApart
import Derived.Test.YtadpmgdmiaoniaaGreatDoorAwFoot
import Derived.Test.YtadpmgdmiaoniaaGreatDoorAwKept
import Derived.Test.YtadpmgdmiaoniaaGreatDoorAwShare
import Derived.Test.YtadpmgdmiaoniaaGreatDoorAwN
import Derived.Test.YtadpmgdmiaoniaaGreatDoorAwEqStruct
import Derived.Test.YtadpmgdmiaoniaaGreatDoorAwRepsOne
import Derived.Test.YtadpmgdmiaoniaaGreatDoorAwGuard
import Derived.Test.YtadpmgdmiaoniaaGreatDoorAwMore
import Derived.Deep.Slices
import Derived.Deep.Fields
import Derived.ChangeSame
import Derived.ChangeArms
import Derived.WideShapes
import Derived.Test.YtadpmgdmiaoniaaGreatDoorProg
import Derived.Below
import Derived.Deep.Draws
import Derived.Deep.AppendLies
import Derived.Maps.AppendAt
import Derived.OwnWalk
import Derived.Laws.BytesArg
import Derived.Laws.MakeOwn
import Derived.Laws.OwnMore
import Derived.Deep.OwnRows
import Derived.Tactics
import Derived.Lib.ConvBytes
import Derived.Laws.Slices
import Derived.WalkKit
import Derived.KernelRfl
import Derived.RowKit3
import Derived.Deep.LoopGhost
import Derived.Deep.QuietTactic
import Derived.BigQuiet
import Derived.WideLaws
import Derived.Deep.DeepCutAuto
import Derived.Deep.CutBlock
import Derived.Deep.RegionHeld3
import Derived.Laws.Rows
import Derived.Lib.AppendStr
import Derived.ArgAppend
import Derived.Laws.IdiomCopy
import Derived.OrdersHeld
import Derived.Laws.BitsLemmas
import Derived.RowKit
import Derived.Sort.Walk0
import Derived.Lib.Strings
import Derived.Lib.SlicesCompact
import Derived.Shelf.Strings.SlTrimAscii
import Derived.Ground.NamesProg
import Derived.Ground.SlgfProg
import Derived.Maps.Own
import Derived.StringKeys
import Derived.Maps.OwnOps
import Derived.Maps.OwnSet
import Derived.Maps.Views
import Derived.Laws.AppendOwn
import Derived.Deep.DrawnRows
import Derived.Shelf.Sort.Plain
import Derived.Shelf.Slices.CompactS
import Derived.Shelf.Slices.In.SortNone
import Derived.RangeFuncBox
import Derived.RangeFuncLeaves
import Derived.Shelf.Abstract
import Derived.OwnWalkIn
import Derived.TacticsInMore
import Derived.LoopNIn
import Derived.LoopIn
import Derived.Lib.OwnBridge
import Derived.Sort.OwnSorted
import Derived.Sort.Grow
import Derived.Shelf.Strings.OnBuilder
import Derived.Shelf.SlicesE.DeleteFunc
import Derived.Lib.SliceRun
import Derived.Sort.OwnSortedInts
import Derived.Test.YtadpmgdmiaoniaaGreatDoorRows
import Derived.Test.YtadpmgdmiaoniaaGreatDoorTie
import Derived.Test.YtadpmgdmiaoniaaGreatDoorCards
import Derived.ProofKit
import Derived.OpenShut
import Derived.ShutString
import Derived.ChangeOld
import Derived.SizedLaws
import Derived.Carry
import Derived.LaidMore
import Derived.Lay
import Derived.SevenTiedAt
import Derived.Stop.Joined
set_option linter.unusedVariables false
set_option linter.unusedSimpArgs false
namespace Go.Proofs.YtadpmgdmiaoniaaGreatDoor.Q
open Go.ChangeShapes Go.WideShapes Go.Deep Go.RowKit Go.Proofs.YtadpmgdmiaoniaaGreatDoorW.PrintWords Go.Proofs.YtadpmgdmiaoniaaGreatDoorW.PrintLast Go.Proofs.YtadpmgdmiaoniaaGreatDoorW.PrintMore
def I64 (n : Int) : Prop := -9223372036854775808 ≤ n ∧ n ≤ 9223372036854775807
theorem I64_of {n : Int} (h : (Lit.int .i64 n).wf = true) : I64 n := by
  have h1 : IntKind.i64.min = -9223372036854775808 := by decide
  simp [Lit.wf, h1] at h
  exact h
set_option maxRecDepth 100000 in
theorem open_trie {H : Type} {enc : TypeId × Value → H} {w : World} {base b0 : Nat} {spare : Nat → Bool} {held : Bool} {r : Reach} {v : Value} {d : DataW H} {p : List MemPlace} (hv : Value.okWide Tryz.prog w r b0 24 v) (h : DataW.Trod enc Tryz.prog w base spare held 24 v d p) :
    ∃ (A : Option Addr) (c : Nat) (l : List S75), v = .agg #[.slice A l.length c] ∧ Kd.C k75 w A l.length l ∧ l.length ≤ c ∧ l.length ≤ maxLen ∧ ∀ x ∈ l, I64 x.f0 ∧ I64 x.f1 := by
  obtain ⟨cs, rfl, hsz⟩ := okWide_struct Tryz.underlying24 hv
  have hct : Tryz.prog.cellsOf 24 = 1 := by kernel_rfl
  have hsz1 : cs.size = 1 := hsz.trans hct
  obtain ⟨c0, rfl⟩ : ∃ c0, cs = #[c0] := ⟨cs[0], by
    apply Array.ext
    · simp [hsz1]
    · intro i h1 h2
      have : i = 0 := by omega
      subst this; rfl⟩
  obtain ⟨fuel, hf⟩ := h
  obtain ⟨xs, n, _, hx, _, hlen, hg⟩ := DataW.trod_struct Tryz.underlying24 hf
  have h0 := hg 0 _ rfl
  have hc1 : Tryz.prog.cellsOf 22 = 1 := by kernel_rfl
  simp only [Value.cells, List.drop_zero, hc1] at h0
  have h0' : DataW.trod enc Tryz.prog w base spare held n 22 [c0] = xs[0]? := h0
  rw [List.getElem?_eq_getElem (show 0 < xs.length by rw [hlen]; decide)] at h0'
  have hC : Tryz.prog.cellsOf 75 = 3 := by kernel_rfl
  have i1 : Tryz.prog.cellsOf 3 = 1 := by kernel_rfl
  have i2 : Tryz.prog.cellsOf 4 = 1 := by kernel_rfl
  rcases open_slice Tryz.underlying22 h0' with ⟨e, _⟩ | ⟨a, len, cap, m, n', D, Pl, e, _, hl, hm, hmm, _, hi⟩
  · injection e with e
    subst e
    exact ⟨none, 0, [], rfl, ⟨rfl, by decide, fun h => absurd h (by decide)⟩, Nat.le_refl _, Nat.zero_le _, fun x hx => by cases hx⟩
  · injection e with e
    subst e
    have hlm : len ≤ m := by rw [hmm]; split <;> omega
    have hex : ∀ i, i < len → ∃ x : S75, I64 x.f0 ∧ I64 x.f1 ∧ ∀ j u, [Value.int .i64 x.f0, .int .i64 x.f1, .bool x.f2][j]? = some u → w.cell? (a.add (i * 3 + j)) = some u := by
      intro i hil
      obtain ⟨cs', hc, ht'⟩ := hi i (by omega)
      rw [hC] at hc
      obtain ⟨ys, n2, _, _, hcl, hyl, hfl⟩ := DataW.trod_struct Tryz.underlying75 ht'
      obtain ⟨_, hcl3, hat⟩ := World.cells?_some hc
      have f0 := hfl 0 _ rfl
      have f1 := hfl 1 _ rfl
      have f2 := hfl 2 _ rfl
      rw [hC] at hcl
      obtain ⟨u0, u1, u2, rfl⟩ : ∃ u0 u1 u2, cs' = [u0, u1, u2] := by
        match cs', hcl with
        | [u0, u1, u2], _ => exact ⟨u0, u1, u2, rfl⟩
      replace f0 : DataW.trod enc Tryz.prog w base spare held n2 3 ((List.drop 0 [u0, u1, u2]).take (Tryz.prog.cellsOf 3)) = ys[0]? := f0
      rw [i1] at f0
      replace f0 : DataW.trod enc Tryz.prog w base spare held n2 3 [u0] = ys[0]? := f0
      replace f1 : DataW.trod enc Tryz.prog w base spare held n2 3 ((List.drop 1 [u0, u1, u2]).take (Tryz.prog.cellsOf 3)) = ys[1]? := f1
      rw [i1] at f1
      replace f1 : DataW.trod enc Tryz.prog w base spare held n2 3 [u1] = ys[1]? := f1
      replace f2 : DataW.trod enc Tryz.prog w base spare held n2 4 ((List.drop 2 [u0, u1, u2]).take (Tryz.prog.cellsOf 4)) = ys[2]? := f2
      rw [i2] at f2
      replace f2 : DataW.trod enc Tryz.prog w base spare held n2 4 [u2] = ys[2]? := f2
      rw [List.getElem?_eq_getElem (show 0 < ys.length by rw [hyl]; decide)] at f0
      rw [List.getElem?_eq_getElem (show 1 < ys.length by rw [hyl]; decide)] at f1
      rw [List.getElem?_eq_getElem (show 2 < ys.length by rw [hyl]; decide)] at f2
      obtain ⟨x0, e0, _, w0⟩ := DataW.trod_int Tryz.underlying3 f0
      obtain ⟨x1, e1, _, w1⟩ := DataW.trod_int Tryz.underlying3 f1
      obtain ⟨x2, e2, _⟩ := DataW.trod_bool Tryz.underlying4 f2
      injection e0 with e0
      injection e1 with e1
      injection e2 with e2
      subst e0; subst e1; subst e2
      refine ⟨⟨x0, x1, x2⟩, I64_of w0, I64_of w1, fun j u hj => ?_⟩
      obtain ⟨hj3, hju⟩ := List.getElem?_eq_some_iff.1 hj
      rw [← Go.Deep.add_add, hat j (show j < 3 from hj3)]
      exact hj
    obtain ⟨f, hf⟩ : ∃ f : Nat → S75, ∀ i, i < len → I64 (f i).f0 ∧ I64 (f i).f1 ∧ ∀ j u, [Value.int .i64 (f i).f0, .int .i64 (f i).f1, .bool (f i).f2][j]? = some u → w.cell? (a.add (i * 3 + j)) = some u :=
      ⟨fun i => if h : i < len then Classical.choose (hex i h) else ⟨0, 0, false⟩, fun i h => by simp only [h, dite_true]; exact Classical.choose_spec (hex i h)⟩
    have hfl : ((List.range len).map f).length = len := by simp
    refine ⟨some a, cap, (List.range len).map f, by rw [hfl], ?_, by rw [hfl]; exact hl, by rw [hfl]; omega, ?_⟩
    · rw [hfl]
      refine ⟨by simp, by unfold maxLen at hm; omega, fun _ => ⟨a, rfl, fun j p hj => ?_⟩⟩
      obtain ⟨hjl, rfl⟩ := List.getElem?_eq_some_iff.1 hj
      rw [hfl] at hjl
      refine ⟨_, rfl, k75_mk w _, fun i u hu => ?_⟩
      simp only [List.getElem_map, List.getElem_range] at hu
      exact (hf j hjl).2.2 i u hu
    · intro x hx
      obtain ⟨i, hi, rfl⟩ := List.mem_map.1 hx
      exact ⟨(hf i (List.mem_range.1 hi)).1, (hf i (List.mem_range.1 hi)).2.1⟩
end Go.Proofs.YtadpmgdmiaoniaaGreatDoor.Q
namespace Go.Proofs.YtadpmgdmiaoniaaGreatDoor.Q
open Go.RowKit Go.Proofs.YtadpmgdmiaoniaaGreatDoorW.PrintWords Go.Proofs.YtadpmgdmiaoniaaGreatDoorW.PrintLast
def metN (a : Nat) (m : List Bool) (n : Int) : List Bool := m.set ((a : Int) + n).toNat true
theorem metN_len (a : Nat) (m : List Bool) (n : Int) : (metN a m n).length = m.length := by simp [metN]
theorem fold_metlen (a : Nat) : ∀ (row : List Int) (m : List Bool), (row.foldl (metN a) m).length = m.length
  | [], m => rfl
  | n :: t, m => (fold_metlen a t (metN a m n)).trans (metN_len a m n)
def placesF (ws : List ByteArray) (p : ByteArray) (many : List Int) : Nat → Nat → List Bool → List Int → List Int
  | 0, _, _, o => o
  | n + 1, a, m, o => if rdOf false m (a : Int) = true ∧ rd many (a : Int) ≠ 0 then placesF ws p many n (a + 1) ((rowAt ws p a).foldl (metN a) m) (o ++ [(a : Int)]) else placesF ws p many n (a + 1) m o
theorem places_l1 {ws : List ByteArray} (p : ByteArray) (hp : p.size ≤ 60) (many o : List Int) (a : Nat) (row : List Int) (hrl : row.length ≤ 40) (hrow : ∀ n ∈ row, 1 ≤ n ∧ n + a ≤ p.size) (ha : a ≤ p.size) (m0 : List Bool) (r : List Int × Bool)
    (hn : Ev (fun k => spec_SplitPlaces.l0 k p o ws many (row.foldl (metN a) m0) ((a + 1 : Nat) : Int)) r) : ∀ (n i : Nat) (m : List Bool), i + n = row.length → m.length = p.size + 1 → m = (row.take i).foldl (metN a) m0 → Ev (fun k => spec_SplitPlaces.l1 k p o ws many m (a : Int) row (i : Int)) r := by
  intro n
  induction n with
  | zero =>
    intro i m h hl he
    rw [List.take_of_length_le (by omega)] at he
    refine Ev.succ ?_
    simp only [spec_SplitPlaces.l1]
    rw [wnext a (by omega), he]
    exact Ev.neg (by omega) hn
  | succ n ih =>
    intro i m h hl he
    have hi : i < row.length := by omega
    have hm := hrow _ (List.getElem_mem hi)
    have ew : wrap64 ((a : Int) + row[i]) = (a : Int) + row[i] := by unfold wrap64; omega
    refine Ev.succ ?_
    simp only [spec_SplitPlaces.l1, rdI_nat row hi]
    rw [ew, wnext i (by omega)]
    refine Ev.pos (by omega) (Ev.pos (by omega) (Ev.pos (by omega) (Ev.pos (by omega) (ih (i + 1) _ (by omega) (by simpa using hl) ?_))))
    rw [List.take_succ_eq_append_getElem hi, List.foldl_append, ← he]
    rfl
theorem places_l0 {ws : List ByteArray} (hv : VW ws) (p : ByteArray) (hp : p.size ≤ 60) (many : List Int) (hmany : many.length = p.size + 1) : ∀ (n a : Nat) (m : List Bool) (o : List Int), a + n = p.size + 1 → m.length = p.size + 1 → o.length ≤ a → Ev (fun k => spec_SplitPlaces.l0 k p o ws many m (a : Int)) (placesF ws p many n a m o, true)
  | 0, a, m, o, h, hl, ho => by
    refine Ev.succ ?_
    simp only [spec_SplitPlaces.l0]
    exact Ev.neg (by omega) (Ev.pure _)
  | n + 1, a, m, o, h, hl, ho => by
    refine Ev.succ ?_
    simp only [spec_SplitPlaces.l0]
    refine Ev.pos (by omega) (Ev.pos (by omega) (Ev.pos (by omega) ?_))
    by_cases hb : rdOf false m (a : Int) = true
    · refine Ev.pos hb (Ev.pos (by omega) (Ev.succ ?_))
      simp only [spec_SplitPlaces.j1]
      by_cases hz : rd many (a : Int) = 0
      · refine Ev.pos (beq_iff_eq.2 hz) ?_
        rw [wnext a (by omega)]
        have e : placesF ws p many (n + 1) a m o = placesF ws p many n (a + 1) m o := by rw [placesF, if_neg (fun h => h.2 hz)]
        rw [e]
        exact places_l0 hv p hp many hmany n (a + 1) m o (by omega) hl (by omega)
      · refine Ev.neg (by simpa using hz) (Ev.pos (by omega) (Ev.bind (matches_ev hv p a (by omega) hp) ?_))
        have e : placesF ws p many (n + 1) a m o = placesF ws p many n (a + 1) ((rowAt ws p a).foldl (metN a) m) (o ++ [(a : Int)]) := by rw [placesF, if_pos ⟨hb, hz⟩]
        rw [e]
        exact places_l1 p hp many _ a _ (rowAt_length hv p a) (fun n hn => rowAt_mem hn) (by omega) m _ (places_l0 hv p hp many hmany n (a + 1) _ _ (by omega) (by rw [fold_metlen]; exact hl) (by simp; omega)) (rowAt ws p a).length 0 m (by omega) hl rfl
    · refine Ev.neg hb (Ev.succ ?_)
      simp only [spec_SplitPlaces.j1]
      refine Ev.pos trivial ?_
      rw [wnext a (by omega)]
      have e : placesF ws p many (n + 1) a m o = placesF ws p many n (a + 1) m o := by rw [placesF, if_neg (fun h => hb h.1)]
      rw [e]
      exact places_l0 hv p hp many hmany n (a + 1) m o (by omega) hl (by omega)
theorem plac_l1 {ws : List ByteArray} (p : ByteArray) (hp : p.size ≤ 60) (many o : List Int) (a : Nat) (row : List Int) (hrl : row.length ≤ 40) (hrow : ∀ n ∈ row, 1 ≤ n ∧ n + a ≤ p.size) (ha : a ≤ p.size) (m0 : List Bool) (r : List Int × Bool)
    (hn : Ev (fun k => impl_SplitPlaces.l0 k many (standW ws p) (row.foldl (metN a) m0) o ((p.size + 1 : Nat) : Int) ((a + 1 : Nat) : Int)) r) : ∀ (n i : Nat) (m : List Bool), i + n = row.length → m.length = p.size + 1 → m = (row.take i).foldl (metN a) m0 → Ev (fun k => impl_SplitPlaces.l1 k many (standW ws p) m o (a : Int) ((p.size + 1 : Nat) : Int) (a : Int) row (row.length : Int) (i : Int)) r := by
  intro n
  induction n with
  | zero =>
    intro i m h hl he
    rw [List.take_of_length_le (by omega)] at he
    refine Ev.succ ?_
    simp only [impl_SplitPlaces.l1]
    rw [wnext a (by omega), he]
    exact Ev.neg (by omega) hn
  | succ n ih =>
    intro i m h hl he
    have hi : i < row.length := by omega
    have hm := hrow _ (List.getElem_mem hi)
    have ew : wrap64 ((a : Int) + row[i]) = (a : Int) + row[i] := by unfold wrap64; omega
    refine Ev.succ ?_
    simp only [impl_SplitPlaces.l1, rdI_nat row hi]
    rw [ew, wnext i (by omega)]
    refine Ev.pos (by omega) (Ev.pos (by omega) (Ev.pos (by omega) (Ev.pos (by omega) (Ev.pos (by omega) (ih (i + 1) _ (by omega) (by simpa using hl) ?_)))))
    rw [List.take_succ_eq_append_getElem hi, List.foldl_append, ← he]
    rfl
theorem plac_l0 {ws : List ByteArray} (hv : VW ws) (p : ByteArray) (hp : p.size ≤ 60) (many : List Int) (hmany : many.length = p.size + 1) : ∀ (n a : Nat) (m : List Bool) (o : List Int), a + n = p.size + 1 → m.length = p.size + 1 → o.length ≤ a → Ev (fun k => impl_SplitPlaces.l0 k many (standW ws p) m o ((p.size + 1 : Nat) : Int) (a : Int)) (placesF ws p many n a m o, true)
  | 0, a, m, o, h, hl, ho => by
    refine Ev.succ ?_
    simp only [impl_SplitPlaces.l0]
    exact Ev.neg (by omega) (Ev.pure _)
  | n + 1, a, m, o, h, hl, ho => by
    refine Ev.succ ?_
    simp only [impl_SplitPlaces.l0]
    refine Ev.pos (by omega) (Ev.pos (by omega) (Ev.pos (by omega) ?_))
    by_cases hb : rdOf false m (a : Int) = true
    · refine Ev.pos hb (Ev.pos (by omega) (Ev.succ ?_))
      simp only [impl_SplitPlaces.j1]
      by_cases hz : rd many (a : Int) = 0
      · refine Ev.pos (beq_iff_eq.2 hz) ?_
        rw [wnext a (by omega)]
        have e : placesF ws p many (n + 1) a m o = placesF ws p many n (a + 1) m o := by rw [placesF, if_neg (fun h => h.2 hz)]
        rw [e]
        exact plac_l0 hv p hp many hmany n (a + 1) m o (by omega) hl (by omega)
      · refine Ev.neg (by simpa using hz) (Ev.pos (by omega) (Ev.pos (by omega) (Ev.pos (by rw [standW_length]; omega) ?_)))
        have e : placesF ws p many (n + 1) a m o = placesF ws p many n (a + 1) ((rowAt ws p a).foldl (metN a) m) (o ++ [(a : Int)]) := by rw [placesF, if_pos ⟨hb, hz⟩]
        rw [e, stand_at ws p a (by omega)]
        exact plac_l1 p hp many _ a _ (rowAt_length hv p a) (fun n hn => rowAt_mem hn) (by omega) m _ (plac_l0 hv p hp many hmany n (a + 1) _ _ (by omega) (by rw [fold_metlen]; exact hl) (by simp; omega)) (rowAt ws p a).length 0 m (by omega) hl rfl
    · refine Ev.neg hb (Ev.succ ?_)
      simp only [impl_SplitPlaces.j1]
      refine Ev.pos trivial ?_
      rw [wnext a (by omega)]
      have e : placesF ws p many (n + 1) a m o = placesF ws p many n (a + 1) m o := by rw [placesF, if_neg (fun h => hb h.1)]
      rw [e]
      exact plac_l0 hv p hp many hmany n (a + 1) m o (by omega) hl (by omega)
theorem places_len (ws : List ByteArray) (p : ByteArray) (many : List Int) : ∀ (n a : Nat) (m : List Bool) (o : List Int), (placesF ws p many n a m o).length ≤ o.length + n
  | 0, a, m, o => Nat.le_refl _
  | n + 1, a, m, o => by
    rw [placesF]
    split
    · have := places_len ws p many n (a + 1) ((rowAt ws p a).foldl (metN a) m) (o ++ [(a : Int)])
      simp at this
      omega
    · have := places_len ws p many n (a + 1) m o
      omega
theorem both_SplitPlaces (l0 : List IN) (a1 : ByteArray) : ∃ r, Ev (fun k => spec_SplitPlaces.f k l0 a1) r ∧ Ev (fun k => impl_SplitPlaces.f k l0 a1) r ∧ r.1.length ≤ 1099511627776 := by
  unfold spec_SplitPlaces.f impl_SplitPlaces.f
  rcases pass_cases l0 a1 with ⟨h1, h2⟩ | ⟨ws, hv, rfl, hs, h1, h2, h3⟩
  · exact ⟨([], false), Ev.bindc rfl (Ev.bind h2 (Ev.neg (by decide) (Ev.pure _))), Ev.bind h1 (Ev.neg (by decide) (Ev.pure _)), by simp⟩
  · have hw := ways_ev hv a1 hs
    have hl := (splitsW_len ws a1).1
    have h4 := splits_of hv a1 h3
    have ew : wrap64 ((a1.size : Int) + 1) = ((a1.size + 1 : Nat) : Int) := by unfold wrap64; omega
    have hlen := places_len ws a1 (splitsW ws a1).1 (a1.size + 1) 0 ((List.replicate (a1.size + 1) false).set 0 true) []
    refine ⟨(placesF ws a1 (splitsW ws a1).1 (a1.size + 1) 0 ((List.replicate (a1.size + 1) false).set 0 true) [], true), Ev.bindc rfl (Ev.bind h2 (Ev.pos rfl (Ev.bind (specWords hv) (Ev.bind hw ?_)))), Ev.bind h1 (Ev.pos rfl (Ev.bindc h4 (Ev.bindc h3 ?_))), by simp only [List.length_nil] at hlen ⊢; omega⟩
    · rw [ew]
      simp only [Int.toNat_natCast]
      exact Ev.pos (by omega) (Ev.pos (by omega) (Ev.bindc rfl (Ev.pos (by first | (simp; done) | (simp; omega)) (places_l0 hv a1 hs _ hl (a1.size + 1) 0 _ _ (by omega) (by simp) (by simp)))))
    · rw [ew]
      simp only [Int.toNat_natCast]
      refine Ev.pos (by omega) (Ev.pos (by omega) (Ev.bindc rfl (Ev.pos (by first | (simp; done) | (simp; omega)) ?_)))
      have h := plac_l0 hv a1 hs _ hl (a1.size + 1) 0 ((List.replicate (a1.size + 1) false).set 0 true) [] (by omega) (by simp) (by simp)
      simpa using h
theorem pure_FnExactSplitPlaces (l0 : List LN) (a1 : ByteArray) (hl_l0 : l0.length ≤ maxLen) (hI_l0 : ∀ x ∈ l0, I64 x.f0 ∧ I64 x.f1) (hw_a1 : a1.size ≤ 140737488351232) : ∃ k, laws_FnExactSplitPlaces.f k l0 a1 = some true := by
  refine Ev.ex ?_
  unfold laws_FnExactSplitPlaces.f
  by_cases hs1 : (a1.size : Int) > 1048576
  · exact Ev.pos hs1 (Ev.pure _)
  refine Ev.neg hs1 ?_
  by_cases h_l0 : l0.length ≤ 1048576
  case neg => exact Ev.bindc (szTrie_eq l0 (by unfold maxLen at hl_l0; omega)) (by rw [if_neg h_l0]; exact Ev.pos (by decide) (Ev.pure _))
  refine Ev.bindc (szTrie_eq l0 (by unfold maxLen at hl_l0; omega)) ?_
  rw [if_pos h_l0]
  refine Ev.neg (by omega) ?_
  have ht_l0 := toTrie_ev l0 (by omega)
  have hc_l0 : (cv l0).length ≤ 1048576 := by rw [cv_length]; omega
  obtain ⟨r, e1, e2, hr⟩ := both_SplitPlaces (cv l0) a1
  have hq := eqIntS_ev r.1 r.1 hr
  refine (Ev.bind ht_l0 (Ev.bind e1 (Ev.bind ht_l0 (Ev.bind e2 (Ev.bind hq (Ev.pos (by simp) (Ev.succ ?_)))))))
  simp only [laws_FnExactSplitPlaces.j0]
  obtain ⟨m, hm⟩ := markTrie_ev (cv l0) hc_l0
  refine Ev.neg (by simp) (Ev.bind ht_l0 (Ev.bind (eqTrie_ev _ _ hc_l0) (Ev.pos (by simp) (Ev.bind hm (Ev.neg (by simp only; omega) (Ev.bind hq (Ev.pos (by simp) (Ev.succ ?_))))))))
  simp only [laws_FnExactSplitPlaces.j1]
  obtain ⟨ms, hs1, hs2⟩ := markI_ev r.1 hr
  refine Ev.neg (by simp) (Ev.bind hs1 (Ev.bind hs2 (Ev.neg (by omega) (Ev.pos rfl (Ev.bind ht_l0 (Ev.bind e2 (Ev.bind hq (Ev.pos (by simp) (Ev.succ ?_)))))))))
  simp only [laws_FnExactSplitPlaces.j2]
  exact Ev.neg (by simp) (Ev.bind hs2 (Ev.neg (by omega) (Ev.pos rfl (Ev.pure _))))
end Go.Proofs.YtadpmgdmiaoniaaGreatDoor.Q
namespace Go.Proofs.YtadpmgdmiaoniaaGreatDoor.Pure
theorem FnExactSplitPlaces (l0 : List Q.LN) (a1 : ByteArray) (hl_l0 : l0.length ≤ maxLen) (hI_l0 : ∀ x ∈ l0, Q.I64 x.f0 ∧ Q.I64 x.f1) (hw_a1 : a1.size ≤ 140737488351232) : ∃ k, Q.laws_FnExactSplitPlaces.f k l0 a1 = some true := Q.pure_FnExactSplitPlaces l0 a1 hl_l0 hI_l0 hw_a1
end Go.Proofs.YtadpmgdmiaoniaaGreatDoor.Pure
namespace Go.Proofs.YtadpmgdmiaoniaaGreatDoor.fnExactSplitPlaces
open Go.ChangeShapes Go.WideShapes Go.ChangeAt Go.RowKit
open Go.ChangeMaps (open_string shut_string)
set_option linter.unusedVariables false
theorem own : ownKnob Tryz.prog.godebug = none := by kernel_rfl
theorem laidOut : laidOutB Tryz.prog = true := by kernel_rfl
set_option maxRecDepth 100000 in
theorem lifted (os : Os) (started : os.Started) (H : Type) (enc : TypeId × Value → H) :
    ReturnsInHanded {} Tryz.checked os 4 .any (fun w args => (Rows.fnExactSplitPlacesSpec.pre enc Tryz.prog Tryz.f4 Rows.fnExactSplitPlacesRow.domain false w args ∧ laidMetH Tryz.prog Rows.fnExactSplitPlacesRow.laid w) ∧ sizedMet enc Tryz.prog Tryz.f4 (OpenSpec.ofChange Rows.fnExactSplitPlacesSpec) false w args) (Rows.fnExactSplitPlacesSpec.post enc Tryz.prog Tryz.f4 false true false false) := by
  refine returnsInHanded_of_change_and (C := Tryz.checked) (X := fun w _ => laidMetH Tryz.prog Rows.fnExactSplitPlacesRow.laid w) (fun _ _ _ hh h => h.of_heap hh) own started (by kernel_rfl) Tryz.func4
    (ChangeSpec.witness_shaped (enc := enc) (C := Tryz.checked) (os := os) (X := fun w _ => laidMetH Tryz.prog Rows.fnExactSplitPlacesRow.laid w) false (World.laidAll Tryz.prog os Rows.fnExactSplitPlacesRow.laid) #[.agg #[.slice none 0 0], .string ByteArray.empty] 8 (World.laidAll_os _ _ _)
      (World.shaped_of_ZipB (by kernel_rfl) (by kernel_rfl)) (by kernel_rfl) (by kernel_rfl) (by kernel_rfl)
      (by rw [MakeChecks.laidMetH_plain _ _ _ (by kernel_rfl)]; exact laidMet_laidAll _ (by kernel_rfl) (by kernel_rfl))) ?_
  intro W base args ds gs before hval0 hW hcnd hsz0 hL _
  have hsz : (DataW.weightsEach Tryz.prog (Tryz.f4.params.toList ++ Rows.fnExactSplitPlacesSpec.plain.varTypes Tryz.prog) (ds ++ gs)).all (· ≤ reachBytes) = true := hsz0
  have hval : ∀ (j : Nat) t v, Tryz.f4.params[j]? = some t → args[j]? = some v → Value.okWide Tryz.prog W .any base t v := hval0
  have hW' := hW
  obtain ⟨p, q, hA0, hV, rfl, hfz, hnd⟩ := hW
  have hA : DataW.TrodAll enc Tryz.prog W 0 (fun _ => true) true Tryz.f4.params.toList args.toList ds p := hA0
  rw [Tryz.params4] at hA hval hsz
  obtain ⟨v0, vs0, d0, ds0, p0, q0, hargs, rfl, rfl, h0, r0⟩ := trodAll_cons hA
  obtain ⟨v1, vs1, d1, ds1, p1, q1, rfl, rfl, rfl, h1, r1⟩ := trodAll_cons r0
  obtain ⟨rfl, rfl, rfl⟩ := trodAll_nil r1
  obtain rfl : args = #[v0, v1] := by cases args; simp_all
  obtain ⟨rfl, rfl⟩ := trodVars_none hV
  have k0 := h0
  have lt0 : ∀ x ∈ p0, x.block < W.heap.size := by obtain ⟨m, hm⟩ := k0; exact DataW.trod_lt m _ _ _ hm
  obtain ⟨A0, c0, l0, rfl, hC0, hc0, hl0, hI0⟩ := Q.open_trie (hval 0 24 v0 rfl rfl) h0
  obtain ⟨a1, rfl, rfl, rfl, y1⟩ := open_string Tryz.underlying9 (hval 1 9 v1 rfl rfl) h1
  have w1 : a1.size ≤ 140737488351232 := by
    have z := sized_string hsz (j := 1) (t := 9) rfl rfl
    rw [Array.length_toList] at z
    exact z
  clear hA0 hval0 hsz0 hsz
  obtain ⟨k, hk⟩ := Pure.FnExactSplitPlaces l0 a1 hl0 hI0 w1
  refine (Q.laws_FnExactSplitPlaces.calls k A0 c0 l0 a1 true W hC0 hc0 hk).mono fun e W' ⟨he, bel0⟩ => ?_
  have bel : Below W.heap.size W W' := bel0
  subst he
  exact ⟨_, rfl, _, _, _, [], _, [], hW', trodAll_mk1 (shut_bool Tryz.underlying4 _), (trodAll_cons_mk (Below.trod laidOut (by kernel_rfl) (of_decide_eq_true (by kernel_rfl)) k0 bel lt0) (trodAll_cons_mk (shut_string Tryz.underlying9 y1) trodAll_mk0)), rfl, bel.frame _, fun h => by cases h⟩
theorem over : Rows.fnExactSplitPlacesRow.holds Tryz.pinned (OpenSpec.ofChange Rows.fnExactSplitPlacesSpec) :=
  OpenClaim.holds_of_wide 4 Tryz.f4 rfl rfl rfl rfl rfl rfl rfl ⟨rfl, rfl, rfl, rfl, rfl⟩ rfl rfl rfl rfl rfl (by kernel_rfl) Tryz.func4 (by kernel_rfl)
    (of_decide_eq_true (by kernel_rfl)) (by unfold Func.isWrapper; first | (rw [if_pos (by decide +kernel)]; kernel_rfl) | (rw [if_neg (by decide +kernel)]; exact ⟨rfl, rfl⟩))
    (fun os started H enc _ => lifted os started H enc)
set_option maxRecDepth 100000 in
theorem proved : Rows.FnExactSplitPlacesCardSaid :=
  Claim7.holds_tied_plain_at .later [] [.data, .pinned] true (true, "a66be70c566b356ec5f8f9c514f9a383c5bdb47e0ee55bd527b57172c946a720") false over (fun _ h => by cases h) (by kernel_rfl) (fun _ h => by cases h) fnExactSplitPlaces_row_tie rfl ⟨rfl, rfl⟩ (by kernel_rfl) rfl
    (fun f fn hf hfn => by
      obtain rfl : f = 4 := Option.some.inj ((show Tryz.prog.funcNamed Tryz.f4.name = some 4 by kernel_rfl).symm.trans hf) |>.symm
      obtain rfl : fn = Tryz.f4 := (Option.some.inj (Tryz.func4.symm.trans hfn)).symm
      exact ⟨by kernel_rfl, fun j t ht => by
        rw [Tryz.params4] at ht
        have hm : t ∈ [24, 9] := by simpa using Array.mem_of_getElem? ht
        have hall : ([24, 9].all fun u => !Tryz.prog.wantsStandIn u) = true := by kernel_rfl
        exact (show Tryz.prog.wantsStandIn t = false by simpa using List.all_eq_true.1 hall t hm)⟩)
    (by kernel_rfl)
end Go.Proofs.YtadpmgdmiaoniaaGreatDoor.fnExactSplitPlaces
namespace Go.Proofs.YtadpmgdmiaoniaaGreatDoor
theorem fnExactSplitPlaces_holds : Rows.FnExactSplitPlacesCardSaid := fnExactSplitPlaces.proved
end Go.Proofs.YtadpmgdmiaoniaaGreatDoor
