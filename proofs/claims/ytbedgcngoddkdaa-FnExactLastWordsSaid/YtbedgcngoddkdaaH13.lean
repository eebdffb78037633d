/- Texts of one proof put together: walks of the program's functions, and plain laws on what they compute. -/
import Derived.Test.YtbedgcngoddkdaaH0
import Derived.Test.YtbedgcngoddkdaaH1
import Derived.Test.YtbedgcngoddkdaaH2
import Derived.Test.YtbedgcngoddkdaaH3
import Derived.Test.YtbedgcngoddkdaaH4
import Derived.Test.YtbedgcngoddkdaaH6
import Derived.Test.YtbedgcngoddkdaaH8
import Derived.Test.YtbedgcngoddkdaaH9
import Derived.Test.YtbedgcngoddkdaaHwInv
import Derived.Lib.OwnBridge
import Derived.Sort.OwnSorted
import Derived.Sort.Grow
import Derived.Lib.SlicesCompact
import Derived.Test.YtbedgcngoddkdaaProg
import Derived.Below
import Derived.Deep.Draws
import Derived.Deep.AppendLies
import Derived.Maps.AppendAt
import Derived.OwnWalk
import Derived.Laws.BytesArg
import Derived.Laws.MakeOwn
import Derived.Laws.OwnMore
import Derived.Deep.OwnRows
import Derived.Tactics
import Derived.Lib.ConvBytes
import Derived.Laws.Slices
import Derived.WalkKit
import Derived.KernelRfl
import Derived.RowKit3
import Derived.Deep.LoopGhost
import Derived.Deep.QuietTactic
import Derived.BigQuiet
import Derived.WideLaws
import Derived.Deep.DeepCutAuto
import Derived.Deep.CutBlock
import Derived.Deep.RegionHeld3
import Derived.Laws.Rows
import Derived.Lib.AppendStr
import Derived.ArgAppend
import Derived.Laws.IdiomCopy
import Derived.OrdersHeld
import Derived.Laws.BitsLemmas
import Derived.RowKit
import Derived.Sort.Walk0
import Derived.Lib.Strings
import Derived.Shelf.SlicesE.DeleteFunc
import Derived.Lib.SliceRun
import Derived.Lib.SlKept
import Derived.Maps.Own
import Derived.StringKeys
import Derived.Maps.OwnOps
import Derived.Maps.OwnSet
import Derived.Maps.Views
import Derived.Laws.AppendOwn
import Derived.Deep.DrawnRows
import Derived.Shelf.Sort.Plain
import Derived.Shelf.Slices.CompactS
import Derived.Shelf.Slices.In.SortNone
import Derived.RangeFuncBox
import Derived.RangeFuncLeaves
import Derived.Shelf.Abstract
import Derived.OwnWalkIn
import Derived.TacticsInMore
import Derived.LoopNIn
import Derived.LoopIn
import Derived.Shelf.Strings.OnBuilder
import Derived.Ground.NamesProg
import Derived.Ground.SlgfProg
set_option linter.unusedVariables false
set_option linter.unusedSimpArgs false
namespace Go.Proofs.Ytbedgcngoddkdaa.Q
open Go.RowKit Go.Sort Go.Proofs.YtbedgcngoddkdaaW.PrintWords Go.Proofs.YtbedgcngoddkdaaW.PrintLast Go.Proofs.YtbedgcngoddkdaaW.PrintMore
set_option linter.unusedVariables false
theorem reps_scalar_inv {α : Type} (enc : α → Value) {ps : List α} {cs : List Value} (h : Reps (fun x cs => cs = [enc x]) 1 ps cs) : cs = ps.map enc := by
  obtain ⟨hl, hr⟩ := h
  apply List.ext_getElem
  · simp [hl]
  · intro i h1 h2
    have hi : i < ps.length := by simpa using h2
    have h3 : (cs.drop (i * 1)).take 1 = [enc ps[i]] := hr i ps[i] (List.getElem?_eq_getElem hi)
    have h0 : ((cs.drop (i * 1)).take 1)[0]? = some (enc ps[i]) := by rw [h3]; rfl
    rw [List.getElem?_take_of_lt (by omega), List.getElem?_drop, List.getElem?_eq_getElem (by omega)] at h0
    simp only [Nat.mul_one, Nat.add_zero, Option.some.injEq] at h0
    rw [h0, List.getElem_map]
theorem owns_of_R {w : World} {e base : Nat} {ok : Nat → Prop} {v : Value} {xs : List ByteArray} (h : Kd.R Kd.string e w base ok v xs) : w.ownsRow base e 1 v xs.length (xs.map Value.string) := by
  obtain ⟨h0, inner, ho, hr⟩ := h
  rw [← reps_scalar_inv Value.string hr]
  exact ho
end Go.Proofs.Ytbedgcngoddkdaa.Q
namespace Go.Proofs.Ytbedgcngoddkdaa.Q
open Go.RowKit Go.Proofs.YtbedgcngoddkdaaW.PrintWords Go.Proofs.YtbedgcngoddkdaaW.PrintLast
theorem SS.sw {l : List ByteArray} (h : SS l) : SW l := h.imp (fun h => List.le_of_lt h)
end Go.Proofs.Ytbedgcngoddkdaa.Q
namespace Go.Proofs.Ytbedgcngoddkdaa.Q
open Go.RowKit Go.Sort Go.Shelf Go.Proofs.YtbedgcngoddkdaaW.PrintWords Go.Proofs.YtbedgcngoddkdaaW.PrintLast Go.Proofs.YtbedgcngoddkdaaW.PrintMore
set_option linter.unusedVariables false
set_option linter.unusedSimpArgs false
theorem Tells.on {g : Nat} {bs lb : Array Value} {p : ByteArray → Bool} {base : Nat} {w w1 : World} (h : Tells g bs lb p base w) (hb : Below base w w1) : Tells g bs lb p base w1 := fun x W hW => h x W (hb.trans hW)
theorem Tells.up {g : Nat} {bs lb : Array Value} {p : ByteArray → Bool} {base base' : Nat} {w : World} (h : Tells g bs lb p base w) (hb : base ≤ base') : Tells g bs lb p base' w := fun x W hW => h x W (hW.mono hb)
end Go.Proofs.Ytbedgcngoddkdaa.Q
namespace Go.Proofs.Ytbedgcngoddkdaa.Q
open Go.RowKit Go.Sort Go.Shelf Go.Lib Go.Proofs.YtbedgcngoddkdaaW.PrintWords Go.Proofs.YtbedgcngoddkdaaW.PrintLast Go.Proofs.YtbedgcngoddkdaaW.PrintMore
set_option linter.unusedVariables false
set_option linter.unusedSimpArgs false
theorem rd_arr (d : Array ByteArray) (j : Nat) (h : j < d.size) : rdOf ByteArray.empty d.toList (j : Int) = d[j]! := by
  simp [rdOf, h, getElem!_pos]
theorem set_arr (d : Array ByteArray) (i : Nat) (u : ByteArray) : d.toList.set (i : Int).toNat u = (d.setIfInBounds i u).toList := by
  simp
theorem hit_miss {l : List ByteArray} {p : ByteArray → Bool} {i : Int} (h : Hit l p i) (hn : NoHit l p l.length) : i = -1 := by
  rcases h with ⟨rfl, _⟩ | ⟨m, rfl, hm, h, _⟩
  · rfl
  · rw [hn m hm] at h; cases h
theorem hit_at {l : List ByteArray} {p : ByteArray → Bool} {i : Int} {m : Nat} (h : Hit l p i) (hm : m < l.length) (hp : p (rdOf ByteArray.empty l (m : Int)) = true) (hn : NoHit l p m) : i = (m : Int) := by
  rcases h with ⟨rfl, h⟩ | ⟨q, rfl, hq, h, h2⟩
  · rw [h m hm] at hp; cases hp
  · rcases Nat.lt_trichotomy q m with e | e | e
    · rw [hn q e] at h; cases h
    · rw [e]
    · rw [h2 m e] at hp; cases hp
theorem hit_cases (l : List ByteArray) (p : ByteArray → Bool) : NoHit l p l.length ∨ ∃ m : Nat, m < l.length ∧ p (rdOf ByteArray.empty l (m : Int)) = true ∧ NoHit l p m := by
  have key : ∀ n, NoHit l p n ∨ ∃ m : Nat, m < n ∧ p (rdOf ByteArray.empty l (m : Int)) = true ∧ NoHit l p m := by
    intro n
    induction n with
    | zero => exact .inl fun j hj => absurd hj (Nat.not_lt_zero _)
    | succ n ih =>
      rcases ih with h | ⟨m, hm, h1, h2⟩
      · cases hp : p (rdOf ByteArray.empty l (n : Int)) with
        | true => exact .inr ⟨n, Nat.lt_succ_self _, hp, h⟩
        | false =>
          refine .inl fun j hj => ?_
          by_cases e : j = n
          · rw [e]; exact hp
          · exact h j (by omega)
      · exact .inr ⟨m, by omega, h1, h2⟩
  exact key l.length
theorem filter_all {l : List ByteArray} {p : ByteArray → Bool} (h : NoHit l p l.length) : (l.filter fun x => !p x) = l := by
  rw [List.filter_eq_self]
  intro x hx
  obtain ⟨j, hj, rfl⟩ := List.getElem_of_mem hx
  have := h j hj
  simp [rdOf, hj] at this
  simp [this]
theorem row_cleared {w : World} {base g cap i : Nat} {dk : Array ByteArray} {ys : List ByteArray} (h : Kd.R Kd.string 9 w base (fun _ => True) (.slice (some ⟨g, 0, none⟩) dk.toList.length cap) dk.toList) (hi : i ≤ dk.size)
    (hl : lay dk i (List.replicate (dk.size - i) ByteArray.empty) = (ys ++ List.replicate (dk.size - i) ByteArray.empty).toArray) (hy : ys.length = i) :
    Kd.R Kd.string 9 (w.setCells g (0 + i) (List.replicate (dk.size - i) (.string ByteArray.empty))) base (fun _ => True) (.slice (some ⟨g, 0, none⟩) ys.length cap) ys := by
  have hown := owns_of_R h
  obtain ⟨g', cap', e, _, _, _, _, _, hH⟩ := Lib.holds_of_ownsRow hown (by intro e; cases e)
  injection e with e1 _ _
  injection e1 with e1
  injection e1 with e1
  subst e1
  have hs := putRow_self Value.string w g 0 _ hH
  have hp := putRow_setCells Value.string w g 0 (List.replicate (dk.size - i) ByteArray.empty) dk i (by simp; omega)
  rw [List.map_replicate] at hp
  have hs' : putRow Value.string w g 0 dk = w := hs
  rw [hs', hl] at hp
  rw [hp]
  have hc2 := Lib.ownsRow_putRow (q := 0) (k := ys.length) (ys := ys ++ List.replicate (dk.size - i) ByteArray.empty) hown (by simp; omega) (by simp; omega)
  rw [List.take_left] at hc2
  exact R_of_owns hc2 (fun _ _ => trivial)
theorem below_cells {B : Nat} {w0 w : World} (h : Below B w0 w) {g : Nat} (hg : B ≤ g) : ∀ (vs : List Value) (o : Nat), Below B w0 (w.setCells g o vs) := by
  intro vs
  induction vs generalizing w with
  | nil => intro o; exact h
  | cons v vs ih => intro o; simp only [World.setCells]; exact ih (h.setCell hg v) (o + 1)
set_option maxHeartbeats 2000000 in
theorem deleteFunc_gen (g : Nat) (bs lb : Array Value) (p : ByteArray → Bool) (eg : Enters g) (base : Nat) (v : Value) (xs : List ByteArray) (w : World) (hbs : base ≤ w.heap.size) (hR : Kd.R Kd.string 9 w base (fun _ => True) v xs) (hn : xs.length < 4611686018427387904) (ht : Tells g bs lb p base w) :
    Calls Try.prog 105 #[v, .func (.func g) bs lb] w fun e w' => ∃ v' : Value, e = .returned v' ∧ Kd.R Kd.string 9 w' base (fun _ => True) v' (xs.filter fun x => !p x) ∧ Below base w w' := by
  rcases hit_cases xs p with hno | ⟨k0, hk0, hp0, hno⟩
  · obtain ⟨A, c, rfl⟩ := Kd.R_slice hR
    have hI := (indexFunc_gen g bs lb p eg A c xs w (Kd.R_reads' hR).2.2 hn (ht.up hbs)).mono (R' := fun e w' => e = .returned (.int .i64 (-1)) ∧ Below w.heap.size w w') (fun e w' ⟨i, he, hi, hb⟩ => ⟨by rw [he, hit_miss hi hno], hb⟩)
    rw [filter_all hno]
    have HI := Aside0.mk hI
    have HR := Aside0.mk hR
    clear hI hR ht eg hno
    go_enter Try.func105, Try.ntmps105
    go_wp2_with (go_at_call 97; refine HI.out.mono ?_; rintro e w' ⟨rfl, hb⟩; have HB := Aside0.mk hb; clear hb)
    go_ret
    exact ⟨_, rfl, Kd.R_below HR.out HB.out, HB.out.mono hbs⟩
  · obtain ⟨g0, cap, rfl, hg0, hgl, _⟩ := Kd.R_form hR (by omega)
    have hI := (indexFunc_gen g bs lb p eg (some ⟨g0, 0, none⟩) cap xs w (Kd.R_reads' hR).2.2 hn (ht.up hbs)).mono (R' := fun e w' => e = .returned (.int .i64 k0) ∧ Below w.heap.size w w') (fun e w' ⟨i, he, hi, hb⟩ => ⟨by rw [he, hit_at hi hk0 hp0 hno], hb⟩)
    obtain ⟨d, hd⟩ : ∃ d : Array ByteArray, d = xs.toArray := ⟨_, rfl⟩
    have hdl : d.toList = xs := by rw [hd]
    have hds : d.size = xs.length := by rw [hd]; simp
    obtain ⟨kp, hkp⟩ : ∃ kp : Nat → Bool, kp = fun j => !p d[j]! := ⟨_, rfl⟩
    have hstart : KeptInv kp d (k0 + 1) k0 d := KeptInv.start (fun j hj => by rw [hkp]; show (!p d[j]!) = true; rw [← rd_arr d j (by omega), hdl, hno j hj]; rfl) (by rw [hkp]; show (!p d[k0]!) = false; rw [← rd_arr d k0 (by omega), hdl, hp0]; rfl)
    have hfil : (xs.filter fun x => !p x) = keptUpTo kp d d.size := by rw [hkp, keptUpTo_filter (fun x => !p x) d, hdl]
    have hRd : Kd.R Kd.string 9 w base (fun _ => True) (.slice (some ⟨g0, 0, none⟩) d.toList.length cap) d.toList := by rw [hdl]; exact hR
    have hcapn : xs.length ≤ cap := (Kd.R_reads' hR).2.1
    rw [hfil]
    have hne1 : ((k0 : Int) == -1) = false := beq_eq_false_iff_ne.2 (by omega)
    have hxn : xs.length = d.size := hds.symm
    have HI := Aside0.mk hI
    have HT := Aside0.mk ht
    have HS := Aside0.mk hstart
    have HK := Aside0.mk hkp
    have HRD := Aside0.mk hRd
    rw [hxn] at hk0 hn hcapn HI ⊢
    clear hI hR ht hno hp0 hstart hkp hRd hfil hdl hd hds hxn
    unfold Enters at eg
    have t22 := Try.underlying59
    have v23 : ∀ w, (zeroValue 9).run Try.prog w = .ok (.string ByteArray.empty) w := fun w => by kernel_rfl
    go_enter Try.func105, Try.ntmps105
    go_wp2_with (go_at_call 97; refine HI.out.mono ?_; rintro e w1 ⟨rfl, hb⟩; have HB1 := Aside0.mk hb; clear hb)
    go_loopw [5, 6, 7] (fun s5 s6 _ wr => ∃ (i j : Nat) (dk : Array ByteArray), s5 = .int .i64 i ∧ s6 = .int .i64 j ∧ j ≤ d.size ∧ i < j ∧ Aside0 (KeptInv kp d j i dk) ∧ Aside0 (Kd.R Kd.string 9 wr base (fun _ => True) (.slice (some ⟨g0, 0, none⟩) dk.toList.length cap) dk.toList) ∧ Aside0 (Below base w wr))
      (fun _ s6 _ _ => d.size - (intOf s6).toNat)
    case atStart => exact ⟨k0, k0 + 1, d, rfl, by go_num, by omega, by omega, HS, ⟨Kd.R_below HRD.out HB1.out⟩, ⟨HB1.out.mono hbs⟩⟩
    case round =>
      obtain ⟨i, j, dk, rfl, rfl, hjd, hij, HKI, HRR, HBB⟩ := hrel
      have hdk := HKI.out.size
      by_cases hlt : j < d.size
      · have hcj := (Kd.R_cell ByteArray.empty HRR.out (j : Int) (by omega) (by simp; omega)).1
        rw [rd_arr dk j (by omega), HKI.out.high j (by omega), Int.toNat_natCast] at hcj
        have hcall := HT.out d[j]! wr HBB.out
        generalize hu : d[j]! = u at hcj hcall
        have HU := Aside0.mk hu
        clear hu
        cases hq : p u with
        | false =>
          rw [hq] at hcall
          have HQ := Aside0.mk hq
          clear hq
          go_wp2_with (go_at_fn g; refine hcall.mono ?_; rintro e w2 ⟨rfl, hb⟩; have HR2 := Aside0.mk (Kd.R_below HRR.out hb); have HB2 := Aside0.mk (HBB.out.trans (hb.mono (Nat.le_trans hbs HBB.out.size))); have hci := Kd.R_cell ByteArray.empty HR2.out (i : Int) (by omega) (by simp; omega); rw [Int.toNat_natCast] at hci; obtain ⟨hci1, hci2⟩ := hci; clear hb)
          go_roundw
          case rel =>
            refine ⟨i + 1, j + 1, dk.setIfInBounds i u, by go_num, by go_num, by omega, by omega, ⟨?_⟩, ⟨?_⟩, ⟨HB2.out.setCell hg0 _⟩⟩
            · have := HKI.out.keep hlt (by rw [HK.out]; show (!p d[j]!) = true; rw [HU.out, HQ.out]; rfl)
              rwa [HU.out] at this
            · have h3 : Kd.R Kd.string 9 (w2.setCell ⟨g0, (i : Int).toNat, none⟩ (.string u)) base (fun _ => True) (.slice (some ⟨g0, 0, none⟩) dk.toList.length cap) (dk.toList.set (i : Int).toNat u) := (Kd.R_put HR2.out (i : Int) u).1
              rw [set_arr, Int.toNat_natCast] at h3
              have hl : (dk.setIfInBounds i u).toList.length = dk.toList.length := by simp
              rw [hl]
              exact h3
          case measure => simp [intOf]; omega
        | true =>
          rw [hq] at hcall
          have HQ := Aside0.mk hq
          clear hq
          go_wp2_with (go_at_fn g; refine hcall.mono ?_; rintro e w2 ⟨rfl, hb⟩; have HR2 := Aside0.mk (Kd.R_below HRR.out hb); have HB2 := Aside0.mk (HBB.out.trans (hb.mono (Nat.le_trans hbs HBB.out.size))); clear hb)
          go_roundw
          case rel => exact ⟨i, j + 1, dk, rfl, by go_num, by omega, by omega, ⟨HKI.out.skip (by rw [HK.out]; show (!p d[j]!) = false; rw [HU.out, HQ.out]; rfl)⟩, HR2, HB2⟩
          case measure => simp [intOf]; omega
      · obtain rfl : j = d.size := by omega
        have hcl : ∀ ty, (Builtin.clear_ #[59] ty #[.slice (some ⟨g0, 0 + i, none⟩) (d.size - i) (cap - i)]).run Try.prog wr = .ok (.tuple #[]) (wr.setCells g0 (0 + i) (List.replicate (d.size - i) (.string ByteArray.empty))) :=
          fun ty => Lib.run_clear_slice wr _ _ ty _ t22 v23 rfl rfl g0 (0 + i) _ _ (by omega)
            (fun t ht => by
              have := (Kd.R_cell ByteArray.empty HRR.out ((i + t : Nat) : Int) (by omega) (by simp; omega)).1
              rw [Int.toNat_natCast] at this
              rw [show 0 + i + t = i + t by omega, this]; rfl)
            (fun t ht => by
              have := (Kd.R_cell ByteArray.empty HRR.out ((i + t : Nat) : Int) (by omega) (by simp; omega)).2
              rw [Int.toNat_natCast] at this
              rw [show 0 + i + t = i + t by omega, this])
        simp only [Nat.zero_add] at hcl
        clear hdk
        go_wp2
        go_ret
        have hz := HKI.out.done ByteArray.empty
        have hdk := HKI.out.size
        rw [← hdk] at hz
        have hfin := row_cleared HRR.out (by omega) hz (by rw [hdk]; exact HKI.out.len)
        rw [hdk] at hfin
        simp only [Nat.zero_add] at hfin
        exact ⟨_, by rw [HKI.out.len]; rfl, hfin, by simpa using below_cells HBB.out hg0 _ i⟩
end Go.Proofs.Ytbedgcngoddkdaa.Q
namespace Go.Proofs.Ytbedgcngoddkdaa.Q
open Go.RowKit Go.Proofs.YtbedgcngoddkdaaW.PrintWords Go.Proofs.YtbedgcngoddkdaaW.PrintLast Go.Proofs.YtbedgcngoddkdaaW.PrintMore
attribute [local go_sem] run_field_23 run_field_24 run_field_29 run_field_30 run_field_51 run_field_52 isSome_setCell max2_int min2_int max_two min_two max_three min_three max_four min_four   -- for this text's walks alone
set_option linter.unusedVariables false
set_option linter.unusedSimpArgs false
def laws_heldNodeS.l0 : Nat → List (S86) → Int → Int → Option (Int)
  | 0, _, _, _ => none
  | k + 1, x0, x1, x5 => if x5 < (x0.length : Int) then (if 0 ≤ x5 then (if ((rd_T86 x0 x5).f0) = x1 then (if ((rd_T86 x0 x5).f1) = (wrap64 (x1 + 1)) then (if (((rd_T86 x0 x5).f2) != ((Int.tmod (wrap64 ((wrap64 (x1 + 1)) + 1)) 3) == 0)) = true then (some (-1)) else (laws_heldNodeS.l0 k x0 (wrap64 ((wrap64 ((wrap64 (x1 + 1)) + 1)) + 1)) (wrap64 (x5 + 1)))) else (some (-1))) else (some (-1))) else (none)) else (some x1)
def laws_heldNodeS.f (k : Nat) (l0 : List (S86)) (a1 : Int) : Option (Int) := laws_heldNodeS.l0 k l0 a1 0
set_option maxHeartbeats 8000000 in
set_option maxRecDepth 100000 in
theorem laws_heldNodeS.calls (k : Nat) (A0 : Option Addr) (c0 : Nat) (l0 : List (S86)) (a1 : Int) (r : Int) (w : World) (hr0 : Kd.C k86 w A0 l0.length l0) (hc0 : l0.length ≤ c0) (h : laws_heldNodeS.f k l0 a1 = some r) :
    Calls Try.prog 73 #[.slice A0 l0.length c0, .int .i64 a1] w fun e w' => e = .returned (.int .i64 r) ∧ Drawn0 w w' := by
  have HR0 := Aside0.mk hr0
  have HC0 := Aside0.mk hc0
  clear hr0 hc0
  have H : (laws_heldNodeS.l0 k l0 a1 0) = some r := h
  clear h
  have H' := Aside0.mk H
  clear H
  go_enter Try.func73, Try.ntmps73
  go_wp2
  go_loopg [1, 5] k (fun kq v1 v5 w' => ∃ (x1_1 : Int) (x5_1 : Int), v1 = .int .i64 x1_1 ∧ v5 = .int .i64 x5_1 ∧ Aside0 (laws_heldNodeS.l0 kq l0 x1_1 x5_1 = some r) ∧ Aside0 (kq ≤ k) ∧ Drawn0 w w')
  case atStart => exact ⟨(a1), (0), (by first | rfl | (simp; done) | (simp [*]; done)), (by first | rfl | (simp; done) | (simp [*]; done)), H', ⟨Nat.le_refl _⟩, by repeat (first | exact Drawn0.refl _ | apply Drawn0.step)⟩
  case round =>
    clear H'
    try clear p2
    obtain ⟨x1_1, x5_1, rfl, rfl, HA, HK1, ⟨m1, rfl⟩⟩ := hrel
    cases gk with
    | zero => exact absurd HA.out (by simp [laws_heldNodeS.l0])
    | succ k1 =>
      have H := HA.out
      clear HA
      simp only [laws_heldNodeS.l0] at H
      by_cases c3 : x5_1 < (l0.length : Int)
      · rw [if_pos c3] at H
        have c3b0 : decide (x5_1 < (l0.length : Int)) = true := decide_eq_true c3
        clear c3
        by_cases c4 : 0 ≤ x5_1
        · rw [if_pos c4] at H
          have c4b0 : decide (0 ≤ x5_1) = true := decide_eq_true c4
          clear c4
          by_cases c5 : ((rd_T86 l0 x5_1).f0) = x1_1
          · rw [if_pos c5] at H
            have c5b0 : (((rd_T86 l0 x5_1).f0) == x1_1) = true := beq_iff_eq.mpr c5
            have c5b1 : (((rd_T86 l0 x5_1).f0) != x1_1) = false := bne_eq_false_iff_eq.mpr c5
            clear c5
            by_cases c6 : ((rd_T86 l0 x5_1).f1) = (wrap64 (x1_1 + 1))
            · rw [if_pos c6] at H
              have c6b0 : (((rd_T86 l0 x5_1).f1) == (wrap64 (x1_1 + 1))) = true := beq_iff_eq.mpr c6
              have c6b1 : (((rd_T86 l0 x5_1).f1) != (wrap64 (x1_1 + 1))) = false := bne_eq_false_iff_eq.mpr c6
              clear c6
              by_cases c7 : (((rd_T86 l0 x5_1).f2) != ((Int.tmod (wrap64 ((wrap64 (x1_1 + 1)) + 1)) 3) == 0)) = true
              · rw [if_pos c7] at H
                have c7b0 : (((rd_T86 l0 x5_1).f2) != ((Int.tmod (wrap64 ((wrap64 (x1_1 + 1)) + 1)) 3) == 0)) = true := c7
                (try (have c7b1 : decide (((rd_T86 l0 x5_1).f2) = ((Int.tmod (wrap64 ((wrap64 (x1_1 + 1)) + 1)) 3) == 0)) = false := by simpa using c7))
                (try (have c7b2 : (((rd_T86 l0 x5_1).f2) == ((Int.tmod (wrap64 ((wrap64 (x1_1 + 1)) + 1)) 3) == 0)) = false := by simpa using c7))
                (try (have c7b3 : ¬ (((rd_T86 l0 x5_1).f2) = ((Int.tmod (wrap64 ((wrap64 (x1_1 + 1)) + 1)) 3) == 0)) := by simpa using c7))
                clear c7
                obtain rfl := Option.some.inj H
                have p707 : 0 ≤ (x5_1 : Int) := of_decide_eq_true (by first | (with_reducible assumption) | assumption)
                have q707 : x5_1 < (l0.length : Int) := of_decide_eq_true (by first | (with_reducible assumption) | assumption)
                obtain ⟨ad707, e707, hx707_0, hx707_1, hx707_2⟩ := at_T86 HR0.out x5_1 p707 q707
                cases e707
                replace p707 := eq_true p707
                replace q707 := eq_true q707
                have p708 : 0 ≤ (x5_1 : Int) := of_decide_eq_true (by first | (with_reducible assumption) | assumption)
                have q708 : x5_1 < (l0.length : Int) := of_decide_eq_true (by first | (with_reducible assumption) | assumption)
                obtain ⟨ad708, e708, hx708_0, hx708_1, hx708_2⟩ := at_T86 HR0.out x5_1 p708 q708
                obtain rfl : ad707 = ad708 := (by injection e708)
                replace p708 := eq_true p708
                replace q708 := eq_true q708
                have p709 : 0 ≤ (x5_1 : Int) := of_decide_eq_true (by first | (with_reducible assumption) | assumption)
                have q709 : x5_1 < (l0.length : Int) := of_decide_eq_true (by first | (with_reducible assumption) | assumption)
                obtain ⟨ad709, e709, hx709_0, hx709_1, hx709_2⟩ := at_T86 HR0.out x5_1 p709 q709
                obtain rfl : ad707 = ad709 := (by injection e709)
                replace p709 := eq_true p709
                replace q709 := eq_true q709
                go_wp2
                go_ret
                exact ⟨by first | rfl | (simp; done) | (simp [*]; done), by repeat (first | exact Drawn0.refl _ | apply Drawn0.step)⟩
              · rw [if_neg c7] at H
                have c7b0 : (((rd_T86 l0 x5_1).f2) != ((Int.tmod (wrap64 ((wrap64 (x1_1 + 1)) + 1)) 3) == 0)) = false := by simpa using c7
                (try (have c7b1 : decide (((rd_T86 l0 x5_1).f2) = ((Int.tmod (wrap64 ((wrap64 (x1_1 + 1)) + 1)) 3) == 0)) = true := by simpa using c7))
                (try (have c7b2 : (((rd_T86 l0 x5_1).f2) == ((Int.tmod (wrap64 ((wrap64 (x1_1 + 1)) + 1)) 3) == 0)) = true := by simpa using c7))
                clear c7
                have H' := Aside0.mk H
                clear H
                have p707 : 0 ≤ (x5_1 : Int) := of_decide_eq_true (by first | (with_reducible assumption) | assumption)
                have q707 : x5_1 < (l0.length : Int) := of_decide_eq_true (by first | (with_reducible assumption) | assumption)
                obtain ⟨ad707, e707, hx707_0, hx707_1, hx707_2⟩ := at_T86 HR0.out x5_1 p707 q707
                cases e707
                replace p707 := eq_true p707
                replace q707 := eq_true q707
                have p708 : 0 ≤ (x5_1 : Int) := of_decide_eq_true (by first | (with_reducible assumption) | assumption)
                have q708 : x5_1 < (l0.length : Int) := of_decide_eq_true (by first | (with_reducible assumption) | assumption)
                obtain ⟨ad708, e708, hx708_0, hx708_1, hx708_2⟩ := at_T86 HR0.out x5_1 p708 q708
                obtain rfl : ad707 = ad708 := (by injection e708)
                replace p708 := eq_true p708
                replace q708 := eq_true q708
                have p709 : 0 ≤ (x5_1 : Int) := of_decide_eq_true (by first | (with_reducible assumption) | assumption)
                have q709 : x5_1 < (l0.length : Int) := of_decide_eq_true (by first | (with_reducible assumption) | assumption)
                obtain ⟨ad709, e709, hx709_0, hx709_1, hx709_2⟩ := at_T86 HR0.out x5_1 p709 q709
                obtain rfl : ad707 = ad709 := (by injection e709)
                replace p709 := eq_true p709
                replace q709 := eq_true q709
                go_wp2
                go_roundg k1
                case measure => have := HK1.out; omega
                case rel => exact ⟨(wrap64 ((wrap64 ((wrap64 (x1_1 + 1)) + 1)) + 1)), (wrap64 (x5_1 + 1)), (by first | rfl | (simp; done) | (simp [*]; done)), (by first | rfl | (simp; done) | (simp [*]; done)), H', ⟨by have := HK1.out; omega⟩, by repeat (first | exact Drawn0.refl _ | apply Drawn0.step)⟩
            · rw [if_neg c6] at H
              have c6b0 : (((rd_T86 l0 x5_1).f1) == (wrap64 (x1_1 + 1))) = false := beq_eq_false_iff_ne.mpr c6
              have c6b1 : (((rd_T86 l0 x5_1).f1) != (wrap64 (x1_1 + 1))) = true := bne_iff_ne.mpr c6
              obtain rfl := Option.some.inj H
              have p707 : 0 ≤ (x5_1 : Int) := of_decide_eq_true (by first | (with_reducible assumption) | assumption)
              have q707 : x5_1 < (l0.length : Int) := of_decide_eq_true (by first | (with_reducible assumption) | assumption)
              obtain ⟨ad707, e707, hx707_0, hx707_1, hx707_2⟩ := at_T86 HR0.out x5_1 p707 q707
              cases e707
              replace p707 := eq_true p707
              replace q707 := eq_true q707
              have p708 : 0 ≤ (x5_1 : Int) := of_decide_eq_true (by first | (with_reducible assumption) | assumption)
              have q708 : x5_1 < (l0.length : Int) := of_decide_eq_true (by first | (with_reducible assumption) | assumption)
              obtain ⟨ad708, e708, hx708_0, hx708_1, hx708_2⟩ := at_T86 HR0.out x5_1 p708 q708
              obtain rfl : ad707 = ad708 := (by injection e708)
              replace p708 := eq_true p708
              replace q708 := eq_true q708
              go_wp2
              go_ret
              exact ⟨by first | rfl | (simp; done) | (simp [*]; done), by repeat (first | exact Drawn0.refl _ | apply Drawn0.step)⟩
          · rw [if_neg c5] at H
            have c5b0 : (((rd_T86 l0 x5_1).f0) == x1_1) = false := beq_eq_false_iff_ne.mpr c5
            have c5b1 : (((rd_T86 l0 x5_1).f0) != x1_1) = true := bne_iff_ne.mpr c5
            obtain rfl := Option.some.inj H
            have p707 : 0 ≤ (x5_1 : Int) := of_decide_eq_true (by first | (with_reducible assumption) | assumption)
            have q707 : x5_1 < (l0.length : Int) := of_decide_eq_true (by first | (with_reducible assumption) | assumption)
            obtain ⟨ad707, e707, hx707_0, hx707_1, hx707_2⟩ := at_T86 HR0.out x5_1 p707 q707
            cases e707
            replace p707 := eq_true p707
            replace q707 := eq_true q707
            go_wp2
            go_ret
            exact ⟨by first | rfl | (simp; done) | (simp [*]; done), by repeat (first | exact Drawn0.refl _ | apply Drawn0.step)⟩
        · rw [if_neg c4] at H
          exact absurd H (by simp)
      · rw [if_neg c3] at H
        have c3b0 : decide (x5_1 < (l0.length : Int)) = false := decide_eq_false c3
        clear c3
        obtain rfl := Option.some.inj H
        go_wp2
        go_ret
        exact ⟨by first | rfl | (simp; done) | (simp [*]; done), by repeat (first | exact Drawn0.refl _ | apply Drawn0.step)⟩
def laws_heldTrie.f (k : Nat) (l0_0 : List (S86)) (a1 : Int) : Option (Int) := (laws_heldNodeS.f k l0_0 a1).bind fun t711 => (if t711 < 0 then (some (-1)) else (some t711))
set_option maxHeartbeats 8000000 in
set_option maxRecDepth 100000 in
theorem laws_heldTrie.calls (k : Nat) (A0_0 : Option Addr) (c0_0 : Nat) (l0_0 : List (S86)) (a1 : Int) (r : Int) (w : World) (hr0_0 : Kd.C k86 w A0_0 l0_0.length l0_0) (hc0_0 : l0_0.length ≤ c0_0) (h : laws_heldTrie.f k l0_0 a1 = some r) :
    Calls Try.prog 38 #[.agg #[.slice A0_0 l0_0.length c0_0], .int .i64 a1] w fun e w' => e = .returned (.int .i64 r) ∧ Below w.heap.size w w' := by
  have hu30 := Try.underlying30
  have HR0_0 := Aside0.mk hr0_0
  have HC0_0 := Aside0.mk hc0_0
  clear hr0_0 hc0_0
  have HB := Aside0.mk (Below.refl w.heap.size w)
  have H : ((laws_heldNodeS.f k l0_0 a1).bind fun t711 => (if t711 < 0 then (some (-1)) else (some t711))) = some r := h
  clear h
  replace H := Option.bind_eq_some_iff.mp H
  obtain ⟨t711, A30, H⟩ := H
  replace H : (if t711 < 0 then (some (-1)) else (some t711)) = some r := H
  have A3 := Aside0.mk A30
  clear A30
  by_cases c4 : t711 < 0
  · rw [if_pos c4] at H
    have c4b0 : decide (t711 < 0) = true := decide_eq_true c4
    clear c4
    obtain rfl := Option.some.inj H
    go_enter Try.func38, Try.ntmps38
    go_wp2_with (first | ((with_reducible refine gate_dst (N := 2) rfl ?_); refine box_event ?hg (N := 2) ?hd (cs := #[.slice A0_0 l0_0.length c0_0]) (t := 30) ?hr ?_; (case hd => rfl); (case hg => rfl); (case hr => first | (go_simp; done) | (go_simp; rfl)); intro gb710 hg w5 hbox hb; have n0_ := Aside0.mk (below_step (by repeat (first | (with_reducible first | exact HB.out | apply below_alloc | apply pw_below_drewN | apply below_drew1) | exact HB.out)) hb); have n1_ := Aside0.mk (hbox); have n2_ := Aside0.mk ((by rw [hg]; exact (below_size (by repeat (first | (with_reducible first | exact HB.out | apply below_alloc | apply pw_below_drewN | apply below_drew1) | exact HB.out))) : w.heap.size ≤ gb710)); have n3_ := Aside0.mk ((by rw [hg]; exact (below_size (by repeat (first | (with_reducible first | exact HB.out | apply below_alloc | apply pw_below_drewN | apply below_drew1) | exact HB.out))) : w.heap.size ≤ gb710)); clear HB; have HB := n0_; have BK710 := n1_; have GW710 := n2_; have GE710 := n3_; clear n0_ n1_ n2_ n3_; clear hb hbox hg; have hcz6_0 : w5.cell? ⟨gb710, 0, none⟩ = some (.slice A0_0 l0_0.length c0_0) := (blk_cell BK710.out 0).trans rfl; have hfz6_0 := blk_frozen BK710.out 0) | ((with_reducible refine gate_callee (f := 73) rfl ?_); refine goesL_ (some 8) rfl rfl Try.func73 (by kernel_rfl) rfl #[.slice A0_0 l0_0.length c0_0, .int .i64 a1] rfl (by (try simp only [List.map_toArray, List.map_cons, List.map_nil]); first | done | rfl | (simp only [List.length_drop, List.length_take]; rfl)) ?_; (with_reducible refine (laws_heldNodeS.calls k _ _ l0_0 a1 t711 _ ?side1 ?side2 A3.out).mono ?_); (case side1 => repeat (first | exact (Kd.C_below HR0_0.out HB.out) | (with_reducible refine Kd.C_alloc ?_ _) | (with_reducible refine Kd.C_drewN ?_ _) | (with_reducible refine Kd.C_drew ?_))); (case side2 => exact HC0_0.out); rintro e w' ⟨rfl, ⟨nd, rfl⟩⟩; refine ⟨_, rfl, ?_⟩))
    go_ret
    exact ⟨by first | rfl | (simp [errW_none, errW_some] <;> rfl) | (simp [*, errW_none, errW_some] <;> rfl), by repeat (first | (with_reducible first | exact HB.out | apply below_alloc | apply pw_below_drewN | apply below_drew1 | refine below_set ?_ GE710.out) | exact HB.out)⟩
  · rw [if_neg c4] at H
    have c4b0 : decide (t711 < 0) = false := decide_eq_false c4
    clear c4
    obtain rfl := Option.some.inj H
    go_enter Try.func38, Try.ntmps38
    go_wp2_with (first | ((with_reducible refine gate_dst (N := 2) rfl ?_); refine box_event ?hg (N := 2) ?hd (cs := #[.slice A0_0 l0_0.length c0_0]) (t := 30) ?hr ?_; (case hd => rfl); (case hg => rfl); (case hr => first | (go_simp; done) | (go_simp; rfl)); intro gb710 hg w7 hbox hb; have n0_ := Aside0.mk (below_step (by repeat (first | (with_reducible first | exact HB.out | apply below_alloc | apply pw_below_drewN | apply below_drew1) | exact HB.out)) hb); have n1_ := Aside0.mk (hbox); have n2_ := Aside0.mk ((by rw [hg]; exact (below_size (by repeat (first | (with_reducible first | exact HB.out | apply below_alloc | apply pw_below_drewN | apply below_drew1) | exact HB.out))) : w.heap.size ≤ gb710)); have n3_ := Aside0.mk ((by rw [hg]; exact (below_size (by repeat (first | (with_reducible first | exact HB.out | apply below_alloc | apply pw_below_drewN | apply below_drew1) | exact HB.out))) : w.heap.size ≤ gb710)); clear HB; have HB := n0_; have BK710 := n1_; have GW710 := n2_; have GE710 := n3_; clear n0_ n1_ n2_ n3_; clear hb hbox hg; have hcz8_0 : w7.cell? ⟨gb710, 0, none⟩ = some (.slice A0_0 l0_0.length c0_0) := (blk_cell BK710.out 0).trans rfl; have hfz8_0 := blk_frozen BK710.out 0) | ((with_reducible refine gate_callee (f := 73) rfl ?_); refine goesL_ (some 8) rfl rfl Try.func73 (by kernel_rfl) rfl #[.slice A0_0 l0_0.length c0_0, .int .i64 a1] rfl (by (try simp only [List.map_toArray, List.map_cons, List.map_nil]); first | done | rfl | (simp only [List.length_drop, List.length_take]; rfl)) ?_; (with_reducible refine (laws_heldNodeS.calls k _ _ l0_0 a1 t711 _ ?side1 ?side2 A3.out).mono ?_); (case side1 => repeat (first | exact (Kd.C_below HR0_0.out HB.out) | (with_reducible refine Kd.C_alloc ?_ _) | (with_reducible refine Kd.C_drewN ?_ _) | (with_reducible refine Kd.C_drew ?_))); (case side2 => exact HC0_0.out); rintro e w' ⟨rfl, ⟨nd, rfl⟩⟩; refine ⟨_, rfl, ?_⟩))
    go_ret
    exact ⟨by first | rfl | (simp [errW_none, errW_some] <;> rfl) | (simp [*, errW_none, errW_some] <;> rfl), by repeat (first | (with_reducible first | exact HB.out | apply below_alloc | apply pw_below_drewN | apply below_drew1 | refine below_set ?_ GE710.out) | exact HB.out)⟩
def spec_l5Made.f (k : Nat) (l0 : List ByteArray) : Option ((List (S86)) × Bool) := (spec_l2Set.f k l0).bind fun bt713 => (if bt713.2 = true then ((spec_l2Of.f k bt713.1).bind fun t717 => (some (t717, true))) else (some (([] : List (S86)), false)))
set_option maxHeartbeats 8000000 in
set_option maxRecDepth 100000 in
theorem spec_l5Made.calls (k : Nat) (A0 : Option Addr) (c0 : Nat) (l0 : List ByteArray) (r1 : List (S86)) (r2 : Bool) (w : World) (hr0 : Kd.C Kd.string w A0 l0.length l0) (hc0 : l0.length ≤ c0) (h : spec_l5Made.f k l0 = some (r1, r2)) :
    Calls Try.prog 71 #[.slice A0 l0.length c0] w fun e w' => ∃ v0_ : Value, e = .returned (.tuple #[.agg #[v0_], .bool r2]) ∧ Kd.R k86 86 w' w.heap.size (fun _ => True) v0_ r1 ∧ Below w.heap.size w w' := by
  have hu30 := Try.underlying30
  have HR0 := Aside0.mk hr0
  have HC0 := Aside0.mk hc0
  clear hr0 hc0
  have HB := Aside0.mk (Below.refl w.heap.size w)
  have H : ((spec_l2Set.f k l0).bind fun bt713 => (if bt713.2 = true then ((spec_l2Of.f k bt713.1).bind fun t717 => (some (t717, true))) else (some (([] : List (S86)), false)))) = some (r1, r2) := h
  clear h
  replace H := Option.bind_eq_some_iff.mp H
  obtain ⟨⟨t713, t716⟩, A20, H⟩ := H
  replace H : (if t716 = true then ((spec_l2Of.f k t713).bind fun t717 => (some (t717, true))) else (some (([] : List (S86)), false))) = some (r1, r2) := H
  have A2 := Aside0.mk A20
  clear A20
  by_cases c3 : t716 = true
  · subst c3
    have H1 : ((spec_l2Of.f k t713).bind fun t717 => (some (t717, true))) = some (r1, r2) := by rw [if_pos rfl] at H; exact H
    clear H
    have H := H1
    clear H1
    replace H := Option.bind_eq_some_iff.mp H
    obtain ⟨t717, A40, H⟩ := H
    replace H : (some (t717, true)) = some (r1, r2) := H
    have A4 := Aside0.mk A40
    clear A40
    simp only [Option.some.injEq, Prod.mk.injEq] at H
    obtain ⟨rfl, rfl⟩ := H
    go_enter Try.func71, Try.ntmps71
    go_wp2_with (first | ((with_reducible refine gate_dst (N := 2) rfl ?_); refine box_event ?hg (N := 2) ?hd (cs := #[.slice none 0 0]) (t := 30) ?hr ?_; (case hd => rfl); (case hg => rfl); (case hr => first | (go_simp; done) | (go_simp; rfl)); intro gb712 hg w5 hbox hb; have n0_ := Aside0.mk (below_step (by repeat (first | (with_reducible first | exact HB.out | apply below_alloc | apply pw_below_drewN | apply below_drew1) | exact HB.out)) hb); have n1_ := Aside0.mk (hbox); have n2_ := Aside0.mk ((by rw [hg]; exact (below_size (by repeat (first | (with_reducible first | exact HB.out | apply below_alloc | apply pw_below_drewN | apply below_drew1) | exact HB.out))) : w.heap.size ≤ gb712)); have n3_ := Aside0.mk ((by rw [hg]; exact (below_size (by repeat (first | (with_reducible first | exact HB.out | apply below_alloc | apply pw_below_drewN | apply below_drew1) | exact HB.out))) : w.heap.size ≤ gb712)); clear HB; have HB := n0_; have BK712 := n1_; have GW712 := n2_; have GE712 := n3_; clear n0_ n1_ n2_ n3_; clear hb hbox hg) | ((with_reducible refine gate_callee (f := 84) rfl ?_); refine goesL_ (some 8) rfl rfl Try.func84 (by kernel_rfl) rfl #[.slice A0 l0.length c0] rfl (by (try simp only [List.map_toArray, List.map_cons, List.map_nil]); first | done | rfl | (simp only [List.length_drop, List.length_take]; rfl)) ?_; (with_reducible refine (spec_l2Set.calls k _ _ l0 t713 true _ ?side1 ?side2 A2.out).mono ?_); (case side1 => repeat (first | exact (Kd.C_below HR0.out HB.out) | (with_reducible refine Kd.C_alloc ?_ _) | (with_reducible refine Kd.C_drewN ?_ _) | (with_reducible refine Kd.C_drew ?_))); (case side2 => exact HC0.out); rintro e w6 ⟨v714, rfl, ho0, hb⟩; refine ⟨_, rfl, ?_⟩; have n0_ := Aside0.mk (Kd.V_lower (Kd.V_mono (ok' := fun k_ => k_ ≠ gb712) ho0 (fun k_ hk_ => (Kd.freshB (g := gb712) (o := .cells #[.slice none 0 0] 30 (0, 0)) (by (with_reducible repeat (first | refine blk_drewN ?_ _ | refine blk_drew ?_ | refine blk_alloc ?_ _)); exact BK712.out) k_ hk_))) (below_size (by repeat (first | (with_reducible first | exact HB.out | apply below_alloc | apply pw_below_drewN | apply below_drew1 | refine below_set ?_ GE712.out) | exact HB.out)))); have n1_ := Aside0.mk (blk_below (g := gb712) (o := .cells #[.slice none 0 0] 30 (0, 0)) (by (with_reducible repeat (first | refine blk_drewN ?_ _ | refine blk_drew ?_ | refine blk_alloc ?_ _)); exact BK712.out) hb); have n2_ := Aside0.mk (below_step (by repeat (first | (with_reducible first | exact HB.out | apply below_alloc | apply pw_below_drewN | apply below_drew1 | refine below_set ?_ GE712.out) | exact HB.out)) hb); clear BK712; clear HB; have HO715 := n0_; have BK712 := n1_; have HB := n2_; clear n0_ n1_ n2_; (try clear hb); (try clear hb2); (try clear hk); (try clear hi); (try clear ho0); obtain ⟨Ao7, co7, eo7⟩ := Kd.V_slice HO715.out; subst eo7) | ((with_reducible refine gate_callee (f := 86) rfl ?_); refine goesL_ (some 15) rfl rfl Try.func86 (by kernel_rfl) rfl #[.slice Ao7 t713.length co7] rfl (by (try simp only [List.map_toArray, List.map_cons, List.map_nil]); first | done | rfl | (simp only [List.length_drop, List.length_take]; rfl)) ?_; (with_reducible refine (spec_l2Of.calls k _ _ t713 t717 _ ?side1 ?side2 A4.out).mono ?_); (case side1 => repeat (first | exact (Kd.V_reads' HO715.out).2.2 | (with_reducible refine Kd.C_alloc ?_ _) | (with_reducible refine Kd.C_drewN ?_ _) | (with_reducible refine Kd.C_drew ?_))); (case side2 => exact (Kd.V_reads' HO715.out).2.1); rintro e w8 ⟨v718, rfl, ho0, hb⟩; refine ⟨_, rfl, ?_⟩; have n0_ := Aside0.mk (Kd.V_elder' (by (with_reducible repeat (first | apply Kd.V_alloc | apply Kd.V_drewN | apply Kd.V_drew)); exact HO715.out) (Kd.R_base ho0) hb); have n1_ := Aside0.mk (Kd.R_lower ho0 (below_size (by repeat (first | (with_reducible first | exact HB.out | apply below_alloc | apply pw_below_drewN | apply below_drew1 | refine below_set ?_ GE712.out) | exact HB.out)))); have n2_ := Aside0.mk (blk_below (g := gb712) (o := .cells #[.slice none 0 0] 30 (0, 0)) (by (with_reducible repeat (first | refine blk_drewN ?_ _ | refine blk_drew ?_ | refine blk_alloc ?_ _)); exact BK712.out) hb); have n3_ := Aside0.mk (below_step (by repeat (first | (with_reducible first | exact HB.out | apply below_alloc | apply pw_below_drewN | apply below_drew1 | refine below_set ?_ GE712.out) | exact HB.out)) hb); clear HO715; clear BK712; clear HB; have HO715 := n0_; have HO719 := n1_; have BK712 := n2_; have HB := n3_; clear n0_ n1_ n2_ n3_; (try clear hb); (try clear hb2); (try clear hk); (try clear hi); (try clear ho0); obtain ⟨Ao9, co9, eo9⟩ := Kd.R_slice HO719.out; subst eo9; have hcz10_0 : w8.cell? ⟨gb712, 0, none⟩ = some (.slice none 0 0) := (blk_cell BK712.out 0).trans rfl; have hfz10_0 := blk_frozen BK712.out 0))
    refine bodyPost_ret (results_ct rfl _ _ gb712 30 #[.slice Ao9 t717.length co9] (0, 0) _ rfl (by (with_reducible repeat (first | refine blk_drewN ?_ _ | refine blk_drew ?_ | refine blk_alloc ?_ _)); refine blk_put (cs := #[.slice none 0 0]) ?_ 0 _ rfl; (with_reducible repeat (first | refine blk_drewN ?_ _ | refine blk_drew ?_ | refine blk_alloc ?_ _)); exact BK712.out) Try.underlying30 rfl (by kernel_rfl)) rfl ?_
    exact ⟨_, by first | rfl | (simp [errW_none, errW_some] <;> rfl) | (simp [*, errW_none, errW_some] <;> rfl), by (with_reducible repeat (first | apply Kd.R_alloc | apply Kd.R_drewN | apply Kd.R_drew)); exact Kd.R_mono (R_same_ (Kd.R_far (p := ⟨gb712, 0, none⟩) (Kd.R_types HO719.out BK712.out (by decide)) (fun _ hk => hk.2) (.slice Ao9 t717.length co9)) rfl) (fun _ hk => trivial), by repeat (first | (with_reducible first | exact HB.out | apply below_alloc | apply pw_below_drewN | apply below_drew1 | refine below_set ?_ GE712.out) | exact HB.out)⟩
  · replace c3 := Bool.eq_false_iff.mpr c3
    subst c3
    have H1 : (some (([] : List (S86)), false)) = some (r1, r2) := by rw [if_neg (show ¬ (false = true) by decide)] at H; exact H
    clear H
    have H := H1
    clear H1
    simp only [Option.some.injEq, Prod.mk.injEq] at H
    obtain ⟨rfl, rfl⟩ := H
    go_enter Try.func71, Try.ntmps71
    go_wp2_with (first | ((with_reducible refine gate_dst (N := 2) rfl ?_); refine box_event ?hg (N := 2) ?hd (cs := #[.slice none 0 0]) (t := 30) ?hr ?_; (case hd => rfl); (case hg => rfl); (case hr => first | (go_simp; done) | (go_simp; rfl)); intro gb712 hg w11 hbox hb; have n0_ := Aside0.mk (below_step (by repeat (first | (with_reducible first | exact HB.out | apply below_alloc | apply pw_below_drewN | apply below_drew1) | exact HB.out)) hb); have n1_ := Aside0.mk (hbox); have n2_ := Aside0.mk ((by rw [hg]; exact (below_size (by repeat (first | (with_reducible first | exact HB.out | apply below_alloc | apply pw_below_drewN | apply below_drew1) | exact HB.out))) : w.heap.size ≤ gb712)); have n3_ := Aside0.mk ((by rw [hg]; exact (below_size (by repeat (first | (with_reducible first | exact HB.out | apply below_alloc | apply pw_below_drewN | apply below_drew1) | exact HB.out))) : w.heap.size ≤ gb712)); clear HB; have HB := n0_; have BK712 := n1_; have GW712 := n2_; have GE712 := n3_; clear n0_ n1_ n2_ n3_; clear hb hbox hg) | ((with_reducible refine gate_callee (f := 84) rfl ?_); refine goesL_ (some 8) rfl rfl Try.func84 (by kernel_rfl) rfl #[.slice A0 l0.length c0] rfl (by (try simp only [List.map_toArray, List.map_cons, List.map_nil]); first | done | rfl | (simp only [List.length_drop, List.length_take]; rfl)) ?_; (with_reducible refine (spec_l2Set.calls k _ _ l0 t713 false _ ?side1 ?side2 A2.out).mono ?_); (case side1 => repeat (first | exact (Kd.C_below HR0.out HB.out) | (with_reducible refine Kd.C_alloc ?_ _) | (with_reducible refine Kd.C_drewN ?_ _) | (with_reducible refine Kd.C_drew ?_))); (case side2 => exact HC0.out); rintro e w12 ⟨v714, rfl, ho0, hb⟩; refine ⟨_, rfl, ?_⟩; have n0_ := Aside0.mk (Kd.V_lower (Kd.V_mono (ok' := fun k_ => k_ ≠ gb712) ho0 (fun k_ hk_ => (Kd.freshB (g := gb712) (o := .cells #[.slice none 0 0] 30 (0, 0)) (by (with_reducible repeat (first | refine blk_drewN ?_ _ | refine blk_drew ?_ | refine blk_alloc ?_ _)); exact BK712.out) k_ hk_))) (below_size (by repeat (first | (with_reducible first | exact HB.out | apply below_alloc | apply pw_below_drewN | apply below_drew1 | refine below_set ?_ GE712.out) | exact HB.out)))); have n1_ := Aside0.mk (blk_below (g := gb712) (o := .cells #[.slice none 0 0] 30 (0, 0)) (by (with_reducible repeat (first | refine blk_drewN ?_ _ | refine blk_drew ?_ | refine blk_alloc ?_ _)); exact BK712.out) hb); have n2_ := Aside0.mk (below_step (by repeat (first | (with_reducible first | exact HB.out | apply below_alloc | apply pw_below_drewN | apply below_drew1 | refine below_set ?_ GE712.out) | exact HB.out)) hb); clear BK712; clear HB; have HO715 := n0_; have BK712 := n1_; have HB := n2_; clear n0_ n1_ n2_; (try clear hb); (try clear hb2); (try clear hk); (try clear hi); (try clear ho0); have hcz13_0 : w12.cell? ⟨gb712, 0, none⟩ = some (.slice none 0 0) := (blk_cell BK712.out 0).trans rfl; have hfz13_0 := blk_frozen BK712.out 0))
    refine bodyPost_ret (results_ct rfl _ _ gb712 30 #[.slice none 0 0] (0, 0) _ rfl (by (with_reducible repeat (first | refine blk_drewN ?_ _ | refine blk_drew ?_ | refine blk_alloc ?_ _)); refine blk_put (cs := #[.slice none 0 0]) ?_ 0 _ rfl; (with_reducible repeat (first | refine blk_drewN ?_ _ | refine blk_drew ?_ | refine blk_alloc ?_ _)); exact BK712.out) Try.underlying30 rfl (by kernel_rfl)) rfl ?_
    exact ⟨_, by first | rfl | (simp [errW_none, errW_some] <;> rfl) | (simp [*, errW_none, errW_some] <;> rfl), by first | exact Kd.R_nil _ _ _ _ _ | exact Kd.N_nil _ _ _ _ _ | exact Kd.V_nil _ _ _ _ _ | exact Kd.Q_nil _ _ _ _ _ | exact Kd.S_nil _ _ _ _ _, by repeat (first | (with_reducible first | exact HB.out | apply below_alloc | apply pw_below_drewN | apply below_drew1 | refine below_set ?_ GE712.out) | exact HB.out)⟩
end Go.Proofs.Ytbedgcngoddkdaa.Q
namespace Go.Proofs.Ytbedgcngoddkdaa.Q
open Go.RowKit Go.Sort Go.Shelf Go.Proofs.YtbedgcngoddkdaaW.PrintWords Go.Proofs.YtbedgcngoddkdaaW.PrintLast Go.Proofs.YtbedgcngoddkdaaW.PrintMore
set_option linter.unusedVariables false
theorem box_three (w : World) (v1 v2 v3 : Value) (t1 t2 t3 : Nat) : ∀ W, Below (w.heap.size + 1 + 1 + 1) (((w.alloc (.cells #[v1] t1)).alloc (.cells #[v2] t2)).alloc (.cells #[v3] t3)) W →
    W.heap[w.heap.size]? = some (.cells #[v1] t1 (0, 0)) ∧ W.heap[w.heap.size + 1]? = some (.cells #[v2] t2 (0, 0)) ∧ W.heap[w.heap.size + 1 + 1]? = some (.cells #[v3] t3 (0, 0)) := fun W h => by
  have h3 := Go.heap_alloc_new ((w.alloc (.cells #[v1] t1)).alloc (.cells #[v2] t2)) (.cells #[v3] t3)
  rw [World.size_alloc, World.size_alloc] at h3
  have hb : Below (w.heap.size + 1 + 1) ((w.alloc (.cells #[v1] t1)).alloc (.cells #[v2] t2)) (((w.alloc (.cells #[v1] t1)).alloc (.cells #[v2] t2)).alloc (.cells #[v3] t3)) := (Below.refl _ _).alloc (by simp) _
  obtain ⟨a, b⟩ := box_two w v1 v2 t1 t2 _ hb
  exact ⟨(h.block _ (by omega)).trans a, (h.block _ (by omega)).trans b, (h.block _ (by omega)).trans h3⟩
theorem bsz3 {w w2 : World} {o1 o2 o3 : Obj} (h : Below (w.heap.size + 1 + 1 + 1) (((w.alloc o1).alloc o2).alloc o3) w2) : w.heap.size + 1 + 1 + 1 ≤ w2.heap.size := by simpa using h.size
set_option maxHeartbeats 1000000 in
theorem chosen1_tells (g : Nat) (bs lb : Array Value) (p : ByteArray → Bool) (eg : Enters g) (B base : Nat) (w : World) (hB : B < base) (hbox : w.heap[B]? = some (.cells #[.func (.func g) bs lb] 67 (0, 0))) (ht : Tells g bs lb p base w) :
    Tells 106 #[] #[.pointer (some ⟨B, 0, none⟩)] (fun x => !p x) base w := by
  intro x W hW
  have hcell : W.cell? ⟨B, 0, none⟩ = some (.func (.func g) bs lb) := box_at ((hW.block B hB).trans hbox)
  have hcall := ht x W hW
  unfold Enters at eg
  have HH := Aside0.mk hcall
  clear hbox hW ht hcall
  show Calls Try.prog 106 #[.string x, .pointer (some ⟨B, 0, none⟩)] W _
  go_enter Try.func106, Try.ntmps106
  go_wp2_with (go_at_fn g; refine HH.out.mono ?_; rintro e w' ⟨rfl, hb⟩; have HB := Aside0.mk hb; clear hb)
  go_ret
  exact ⟨rfl, HB.out⟩
theorem chosen1_enters : Enters 106 := enters_of Try.func106 (by kernel_rfl) rfl
set_option maxHeartbeats 2000000 in
theorem chosen_gen (g : Nat) (bs lb : Array Value) (p : ByteArray → Bool) (eg : Enters g) {wa : List ByteArray} (hva : VW wa) (A : Option Addr) (c : Nat) (w : World) (hr : Kd.C k86 w A (trieW wa).length (trieW wa)) (hc : (trieW wa).length ≤ c) (ht : Tells g bs lb p w.heap.size w) :
    Calls Try.prog 72 #[.agg #[.slice A (trieW wa).length c], .func (.func g) bs lb] w fun e w' => ∃ v0 : Value, e = .returned (.agg #[v0]) ∧ Kd.R k86 86 w' w.heap.size (fun _ => True) v0 (trieW (wa.filter p)) ∧ Below w.heap.size w w' := by
  have HX := Aside0.mk (box_three w (.slice A (trieW wa).length c) (.func (.func g) bs lb) (.slice none 0 0) 30 67 30)
  have HB0 := Aside0.mk ((((Below.refl w.heap.size w).alloc (Nat.le_refl _) (.cells #[.slice A (trieW wa).length c] 30)).alloc (by simp) (.cells #[.func (.func g) bs lb] 67)).alloc (by simp; omega) (.cells #[.slice none 0 0] 30))
  obtain ⟨k2, hk2⟩ := (implWords hva).ex
  have HK2 := Aside0.mk hk2
  have HR := Aside0.mk hr
  have HC := Aside0.mk hc
  have hlen := hva.len
  have hfl := List.length_filter_le p wa
  have hok : impl_trieOf.f (wa.filter p) = some (trieW (wa.filter p)) := okTrieOf_of (fun x hx => (hva.ok x (List.mem_filter.1 hx).1).1) (by omega) (SS.sw (hva.ss.filter _))
  have HOK := Aside0.mk hok
  have HDEL : Aside0 (∀ v1 w1, Below (w.heap.size + 1 + 1 + 1) (((w.alloc (.cells #[.slice A (trieW wa).length c] 30)).alloc (.cells #[.func (.func g) bs lb] 67)).alloc (.cells #[.slice none 0 0] 30)) w1 → Kd.R Kd.string 9 w1 (w.heap.size + 1 + 1 + 1) (fun _ => True) v1 wa →
      Calls Try.prog 105 #[v1, .func (.func 106) #[] #[.pointer (some ⟨w.heap.size + 1, 0, none⟩)]] w1 fun e w' => ∃ v' : Value, e = .returned v' ∧ Kd.R Kd.string 9 w' (w.heap.size + 1 + 1 + 1) (fun _ => True) v' (wa.filter p) ∧ Below (w.heap.size + 1 + 1 + 1) w1 w') := ⟨fun v1 w1 hb hR => by
    have := deleteFunc_gen 106 #[] #[.pointer (some ⟨w.heap.size + 1, 0, none⟩)] (fun x => !p x) chosen1_enters (w.heap.size + 1 + 1 + 1) v1 wa w1 (bsz3 hb) hR (by omega)
      (chosen1_tells g bs lb p eg (w.heap.size + 1) _ w1 (by omega) (HX.out w1 hb).2.1 ((ht.on (HB0.out.trans (hb.mono (by omega)))).up (by omega)))
    simpa only [Bool.not_not] using this⟩
  clear hr hc hk2 hok ht eg hlen hfl hva
  go_enter Try.func72, Try.ntmps72
  go_wp2_with (first
    | (go_at_call 57; (with_reducible refine (impl_Trie_words.calls k2 A c _ wa _ (Kd.C_below HR.out HB0.out) HC.out HK2.out).mono ?_); rintro e w1 ⟨v1, rfl, hr, hb⟩; have HQ1 := Aside0.mk (show Below (w.heap.size + 1 + 1 + 1) _ w1 by simpa using hb); have HR1 := Aside0.mk (show Kd.R Kd.string 9 w1 (w.heap.size + 1 + 1 + 1) (fun _ => True) v1 wa by simpa using hr); clear hr hb)
    | (go_at_call 105; refine (HDEL.out v1 w1 HQ1.out HR1.out).mono ?_; rintro e w2 ⟨v2, rfl, hr, hb⟩; obtain ⟨A2, c2, rfl⟩ := Kd.R_slice hr; have HQ2 := Aside0.mk (HQ1.out.trans hb); have HR2 := Aside0.mk hr; clear hr hb)
    | (go_at_call 94; refine (impl_trieOf.calls A2 c2 (wa.filter p) (trieW (wa.filter p)) _ (Kd.R_reads' HR2.out).2.2 (Kd.R_reads' HR2.out).2.1 HOK.out).mono ?_; rintro e w3 ⟨v3, rfl, hr, hb⟩; obtain ⟨A3, c3, rfl⟩ := Kd.R_slice hr; have HQ3 := Aside0.mk (HQ2.out.trans (hb.mono (bsz3 HQ2.out))); have hx := (HX.out w3 HQ3.out).2.2; have hxc := box_at hx; have hxf := box_frozen hx; have HXX := Aside0.mk hx; have HR3 := Aside0.mk (Kd.R_lower hr (bsz3 HQ2.out)); clear hr hb hx))
  have hfin := blk_put HXX.out 0 (.slice A3 (trieW (wa.filter p)).length c3) rfl
  refine bodyPost_ret (results_cell_row rfl _ _ (w.heap.size + 1 + 1) 30 #[.slice A3 (trieW (wa.filter p)).length c3] (0, 0) _ rfl hfin Try.underlying30 rfl (by kernel_rfl)) rfl ?_
  exact ⟨_, rfl, Kd.R_lower (Kd.R_mono (Kd.R_move (Kd.R_bound HR3.out) (fun g hg => Below.heap_setCell _ _ _ _ (by have := hg.2.1; simp; omega))) (fun _ hg => trivial)) (by omega), (HB0.out.trans (HQ3.out.mono (by omega))).setCell (by simp; omega) _⟩
end Go.Proofs.Ytbedgcngoddkdaa.Q
namespace Go.Proofs.Ytbedgcngoddkdaa.Q
open Go.RowKit Go.Proofs.YtbedgcngoddkdaaW.PrintWords Go.Proofs.YtbedgcngoddkdaaW.PrintLast
theorem made_sub {ws : List ByteArray} (hv : VW ws) (p : ByteArray → Bool) : Ev (fun k => spec_l5Made.f k (ws.filter p)) (trieW (ws.filter p), true) := by
  have h3 := hv.len
  have hl := List.length_filter_le p ws
  have hok : ∀ w ∈ ws.filter p, okWord w := fun w hw => hv.ok w (List.mem_filter.1 hw).1
  have hs := setW_of_ss (hv.ss.filter p)
  have e : setRes (ws.filter p) = (ws.filter p, true) := by
    unfold setRes
    rw [if_pos hok, hs, decide_eq_true (by omega)]
  have h := set_ev (ws.filter p) (by omega)
  rw [e] at h
  unfold spec_l5Made.f
  exact Ev.bind h (Ev.pos rfl (Ev.bind (of_ev (ws.filter p) hok (by omega)) (Ev.pure _)))
theorem sub_le {ws : List ByteArray} (hv : VW ws) (p : ByteArray → Bool) : (trieW (ws.filter p)).length ≤ 1048576 := by
  have h3 := hv.len
  have hl := List.length_filter_le p ws
  have := prefW_le (ws.filter p) (fun w hw => (hv.ok w (List.mem_filter.1 hw).1).1)
  rw [trieW_length]
  omega
end Go.Proofs.Ytbedgcngoddkdaa.Q
namespace Go.Proofs.Ytbedgcngoddkdaa.Q
open Go.RowKit Go.Proofs.YtbedgcngoddkdaaW.PrintWords Go.Proofs.YtbedgcngoddkdaaW.PrintLast
def mkN (i : Nat) : IN := ⟨((1 + 3 * i : Nat) : Int), ((2 + 3 * i : Nat) : Int), (Int.tmod ((3 + 3 * i : Nat) : Int) 3 == 0)⟩
theorem markH_l0 : ∀ (d : Nat) (l : List IN) (i : Nat), i + d = l.length → l.length ≤ 1048576 → (∀ j (h : j < l.length), j < i → l[j] = mkN j) →
    ∃ ms : List IN, ms.length = l.length ∧ (∀ j (h : j < ms.length), ms[j] = mkN j) ∧ Ev (fun k => laws_markNodeS.l0 k l ((1 + 3 * i : Nat) : Int) (i : Int)) (((1 + 3 * l.length : Nat) : Int), ms) := by
  intro d
  induction d with
  | zero =>
    intro l i h hl hm
    refine ⟨l, rfl, fun j hj => hm j hj (by omega), Ev.succ ?_⟩
    simp only [laws_markNodeS.l0]
    obtain rfl : i = l.length := by omega
    exact Ev.neg (by omega) (Ev.pure _)
  | succ d ih =>
    intro l i h hl hm
    have hi : i < l.length := by omega
    have e1 : wrap64 (((1 + 3 * i : Nat) : Int) + 1) = ((2 + 3 * i : Nat) : Int) := by unfold wrap64; omega
    have e2 : wrap64 (((2 + 3 * i : Nat) : Int) + 1) = ((3 + 3 * i : Nat) : Int) := by unfold wrap64; omega
    have e3 : wrap64 (((3 + 3 * i : Nat) : Int) + 1) = ((1 + 3 * (i + 1) : Nat) : Int) := by unfold wrap64; omega
    obtain ⟨y, hy⟩ : ∃ y, y = l.set (i : Int).toNat (⟨((1 + 3 * i : Nat) : Int), (rd_T86 l (i : Int)).f1, (rd_T86 l (i : Int)).f2⟩ : IN) := ⟨_, rfl⟩
    have hyi : rd_T86 y (i : Int) = ⟨((1 + 3 * i : Nat) : Int), (rd_T86 l (i : Int)).f1, (rd_T86 l (i : Int)).f2⟩ := by
      rw [rd_nat' y i (by rw [hy, List.length_set]; exact hi)]
      simp [hy]
    obtain ⟨z, hz⟩ : ∃ z, z = y.set (i : Int).toNat (⟨(rd_T86 y (i : Int)).f0, ((2 + 3 * i : Nat) : Int), (rd_T86 y (i : Int)).f2⟩ : IN) := ⟨_, rfl⟩
    have hyl : y.length = l.length := by rw [hy, List.length_set]
    have hzl : z.length = l.length := by rw [hz, List.length_set, hyl]
    have hzi : rd_T86 z (i : Int) = ⟨((1 + 3 * i : Nat) : Int), ((2 + 3 * i : Nat) : Int), (rd_T86 l (i : Int)).f2⟩ := by
      rw [rd_nat' z i (by omega)]
      simp [hz, hyi]
    have hw : z.set (i : Int).toNat ⟨(rd_T86 z (i : Int)).f0, (rd_T86 z (i : Int)).f1, (Int.tmod ((3 + 3 * i : Nat) : Int) 3 == 0)⟩ = l.set i (mkN i) := by
      rw [hzi, hz, hy, Int.toNat_natCast, List.set_set, List.set_set]
      rfl
    obtain ⟨ms, h1, h2, h3⟩ := ih (l.set i (mkN i)) (i + 1) (by rw [List.length_set]; omega) (by rw [List.length_set]; exact hl) (fun j hj hji => by
      rw [List.length_set] at hj
      rw [List.getElem_set]
      split
      · rename_i e; subst e; rfl
      · exact hm j hj (by omega))
    rw [List.length_set] at h1 h3
    refine ⟨ms, h1, h2, Ev.succ ?_⟩
    simp only [laws_markNodeS.l0, e1, e2, e3, Option.bind_some]
    rw [wnext i (by omega), ← hy, ← hz, hw]
    exact Ev.pos (by omega) (Ev.pos (by omega) h3)
theorem heldH_l0 (l : List IN) (hl : l.length ≤ 1048576) (hm : ∀ j (h : j < l.length), l[j] = mkN j) : ∀ (d i : Nat), i + d = l.length → Ev (fun k => laws_heldNodeS.l0 k l ((1 + 3 * i : Nat) : Int) (i : Int)) ((1 + 3 * l.length : Nat) : Int) := by
  intro d
  induction d with
  | zero =>
    intro i h
    refine Ev.succ ?_
    simp only [laws_heldNodeS.l0]
    obtain rfl : i = l.length := by omega
    exact Ev.neg (by omega) (Ev.pure _)
  | succ d ih =>
    intro i h
    have hi : i < l.length := by omega
    have e1 : wrap64 (((1 + 3 * i : Nat) : Int) + 1) = ((2 + 3 * i : Nat) : Int) := by unfold wrap64; omega
    have e2 : wrap64 (((2 + 3 * i : Nat) : Int) + 1) = ((3 + 3 * i : Nat) : Int) := by unfold wrap64; omega
    have e3 : wrap64 (((3 + 3 * i : Nat) : Int) + 1) = ((1 + 3 * (i + 1) : Nat) : Int) := by unfold wrap64; omega
    have hr : rd_T86 l (i : Int) = mkN i := by rw [rd_nat' l i hi]; exact hm i hi
    refine Ev.succ ?_
    simp only [laws_heldNodeS.l0, e1, e2, e3, hr]
    rw [wnext i (by omega)]
    exact Ev.pos (by omega) (Ev.pos (by omega) (Ev.pos rfl (Ev.pos rfl (Ev.neg (by simp [mkN]) (ih (i + 1) (by omega))))))
theorem markH_ev (l : List IN) (hl : l.length ≤ 1048576) : ∃ ms : List IN, Ev (fun k => laws_markTrie.f k l 1) (((1 + 3 * l.length : Nat) : Int), ms) ∧ Ev (fun k => laws_heldTrie.f k ms 1) ((1 + 3 * l.length : Nat) : Int) := by
  obtain ⟨ms, h1, h2, h3⟩ := markH_l0 l.length l 0 (by omega) hl (fun j _ hj => absurd hj (Nat.not_lt_zero _))
  refine ⟨ms, ?_, ?_⟩
  · unfold laws_markTrie.f laws_markNodeS.f; exact Ev.bind h3 (Ev.pure _)
  · unfold laws_heldTrie.f laws_heldNodeS.f
    have := heldH_l0 ms (by omega) h2 ms.length 0 (by omega)
    rw [h1] at this
    exact Ev.bind this (Ev.neg (by omega) (Ev.pure _))
end Go.Proofs.Ytbedgcngoddkdaa.Q
