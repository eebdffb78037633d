/- The law FnExactTurnTrie: for every input the call answers true and leaves its arguments as they were. -/
import Derived.Test.YtefcbnlljpdjnaaGreatDoorA0
import Derived.Test.YtefcbnlljpdjnaaGreatDoorA1
import Derived.Test.YtefcbnlljpdjnaaGreatDoorA2
import Derived.Test.YtefcbnlljpdjnaaGreatDoorA3
import Derived.Test.YtefcbnlljpdjnaaGreatDoorA4
import Derived.Test.YtefcbnlljpdjnaaGreatDoorProg
import Derived.Below
import Derived.Deep.Draws
import Derived.Deep.AppendLies
import Derived.Maps.AppendAt
import Derived.OwnWalk
import Derived.Laws.BytesArg
import Derived.Laws.MakeOwn
import Derived.Laws.OwnMore
import Derived.Deep.OwnRows
import Derived.Tactics
import Derived.Lib.ConvBytes
import Derived.Laws.Slices
import Derived.WalkKit
import Derived.KernelRfl
import Derived.RowKit3
import Derived.Deep.LoopGhost
import Derived.Deep.QuietTactic
import Derived.BigQuiet
import Derived.WideLaws
import Derived.Deep.DeepCutAuto
import Derived.Deep.CutBlock
import Derived.Deep.RegionHeld3
import Derived.Laws.Rows
import Derived.Lib.AppendStr
import Derived.ArgAppend
import Derived.Laws.IdiomCopy
import Derived.OrdersHeld
import Derived.Laws.BitsLemmas
import Derived.RowKit
import Derived.Shelf.Sort.Plain
import Derived.Shelf.Slices.CompactS
import Derived.Shelf.Slices.In.SortNone
import Derived.RangeFuncBox
import Derived.RangeFuncLeaves
import Derived.Shelf.Abstract
import Derived.OwnWalkIn
import Derived.TacticsInMore
import Derived.LoopNIn
import Derived.LoopIn
import Derived.Lib.OwnBridge
import Derived.Sort.OwnSorted
import Derived.Sort.Grow
import Derived.Lib.SlicesCompact
import Derived.Shelf.Strings.OnBuilder
import Derived.Ground.NamesProg
import Derived.Ground.SlgfProg
import Derived.Maps.Own
import Derived.StringKeys
import Derived.Maps.OwnOps
import Derived.Maps.OwnSet
import Derived.Maps.Views
import Derived.Laws.AppendOwn
import Derived.Deep.DrawnRows
import Derived.Sort.Walk0
import Derived.Lib.Strings
import Derived.Shelf.SlicesE.DeleteFunc
import Derived.Lib.SliceRun
import Derived.Shelf.Strings.SlTrimAscii
import Derived.Shelf.SlicesE.Reverse
import Derived.Ground.SlgnProg
import Derived.Lib.AtoiErrMem
import Derived.Lib.ItoaMem
import Derived.Laws.IdiomStrings
import Derived.Deep.Slices
import Derived.Deep.Fields
import Derived.ChangeSame
import Derived.ChangeArms
import Derived.WideShapes
import Derived.Test.YtefcbnlljpdjnaaGreatDoorRows
import Derived.Test.YtefcbnlljpdjnaaGreatDoorTie
import Derived.Test.YtefcbnlljpdjnaaGreatDoorCards
import Derived.ProofKit
import Derived.OpenShut
import Derived.ShutString
import Derived.ChangeOld
import Derived.SizedLaws
import Derived.Carry
import Derived.LaidMore
import Derived.Lay
import Derived.SevenTiedAt
import Derived.Stop.Joined
set_option linter.unusedVariables false
set_option linter.unusedSimpArgs false
namespace Go.Proofs.YtefcbnlljpdjnaaGreatDoor.Q
open Go.RowKit Go.Proofs.YtefcbnlljpdjnaaGreatDoorW.PrintWords Go.Proofs.YtefcbnlljpdjnaaGreatDoorW.PrintLast Go.Proofs.YtefcbnlljpdjnaaGreatDoorW.PrintMore
attribute [local go_sem] run_field_23 run_field_24 run_field_27 run_field_28 isSome_setCell max2_int min2_int max_two min_two max_three min_three max_four min_four   -- for this text's walks alone
set_option linter.unusedVariables false
set_option linter.unusedSimpArgs false
def spec_l5Turned.l0 : Nat → ByteArray → ByteArray → Int → Option (ByteArray)
  | 0, _, _, _ => none
  | k + 1, x0, x3, x4 => if x4 < (x0.size : Int) then (if 0 ≤ x4 then (if x4 ≤ (wrap64 (x4 + 1)) then (if (wrap64 (x4 + 1)) ≤ (x0.size : Int) then (if (x0.extract (x4 : Int).toNat ((wrap64 (x4 + 1)) : Int).toNat).size + x3.size ≤ 9223372036854775807 then (spec_l5Turned.l0 k x0 ((x0.extract (x4 : Int).toNat ((wrap64 (x4 + 1)) : Int).toNat) ++ x3) (wrap64 (x4 + 1))) else (none)) else (none)) else (none)) else (none)) else (some x3)
def spec_l5Turned.f (k : Nat) (a0 : ByteArray) : Option (ByteArray) := spec_l5Turned.l0 k a0 (⟨#[]⟩ : ByteArray) 0
set_option maxHeartbeats 8000000 in
set_option maxRecDepth 100000 in
theorem spec_l5Turned.calls (k : Nat) (a0 : ByteArray) (r : ByteArray) (w : World) (h : spec_l5Turned.f k a0 = some r) :
    Calls Tryz.prog 23 #[.string a0] w fun e w' => e = .returned (.string r) ∧ Drawn0 w w' := by
  have H : (spec_l5Turned.l0 k a0 (⟨#[]⟩ : ByteArray) 0) = some r := h
  clear h
  have H' := Aside0.mk H
  clear H
  go_enter Tryz.func23, Tryz.ntmps23
  go_wp2
  go_loopg [3, 4] k (fun kq v3 v4 w' => ∃ (x3_1 : ByteArray) (x4_1 : Int), v3 = .string x3_1 ∧ v4 = .int .i64 x4_1 ∧ Aside0 (spec_l5Turned.l0 kq a0 x3_1 x4_1 = some r) ∧ Aside0 (kq ≤ k) ∧ Drawn0 w w')
  case atStart => exact ⟨((⟨#[]⟩ : ByteArray)), (0), (by first | rfl | (simp; done) | (simp [*]; done)), (by first | rfl | (simp; done) | (simp [*]; done)), H', ⟨Nat.le_refl _⟩, by repeat (first | exact Drawn0.refl _ | apply Drawn0.step)⟩
  case round =>
    clear H'
    obtain ⟨x3_1, x4_1, rfl, rfl, HA, HK1, ⟨m1, rfl⟩⟩ := hrel
    cases gk with
    | zero => exact absurd HA.out (by simp [spec_l5Turned.l0])
    | succ k1 =>
      have H := HA.out
      clear HA
      simp only [spec_l5Turned.l0] at H
      by_cases c2 : x4_1 < (a0.size : Int)
      · rw [if_pos c2] at H
        have c2b0 : decide (x4_1 < (a0.size : Int)) = true := decide_eq_true c2
        clear c2
        by_cases c3 : 0 ≤ x4_1
        · rw [if_pos c3] at H
          have c3b0 := eq_true c3
          have c3b1 : decide (0 ≤ x4_1) = true := decide_eq_true c3
          clear c3
          by_cases c4 : x4_1 ≤ (wrap64 (x4_1 + 1))
          · rw [if_pos c4] at H
            have c4b0 := eq_true c4
            have c4b1 : decide (x4_1 ≤ (wrap64 (x4_1 + 1))) = true := decide_eq_true c4
            by_cases c5 : (wrap64 (x4_1 + 1)) ≤ (a0.size : Int)
            · rw [if_pos c5] at H
              have c5b0 := eq_true c5
              have c5b1 : decide ((wrap64 (x4_1 + 1)) ≤ (a0.size : Int)) = true := decide_eq_true c5
              by_cases c6 : (a0.extract (x4_1 : Int).toNat ((wrap64 (x4_1 + 1)) : Int).toNat).size + x3_1.size ≤ 9223372036854775807
              · rw [if_pos c6] at H
                have c6b0 := eq_true c6
                have c6b1 : decide ((a0.extract (x4_1 : Int).toNat ((wrap64 (x4_1 + 1)) : Int).toNat).size + x3_1.size ≤ 9223372036854775807) = true := decide_eq_true c6
                try have c6b2 : (9223372036854775807 < (a0.extract (x4_1 : Int).toNat ((wrap64 (x4_1 + 1)) : Int).toNat).size + x3_1.size) = False := eq_false (Nat.not_lt.2 c6)
                have H' := Aside0.mk H
                clear H
                go_wp2
                go_roundg k1
                case measure => have := HK1.out; omega
                case rel => exact ⟨((a0.extract (x4_1 : Int).toNat ((wrap64 (x4_1 + 1)) : Int).toNat) ++ x3_1), (wrap64 (x4_1 + 1)), (by first | rfl | (simp; done) | (simp [*]; done)), (by first | rfl | (simp; done) | (simp [*]; done)), H', ⟨by have := HK1.out; omega⟩, by repeat (first | exact Drawn0.refl _ | apply Drawn0.step)⟩
              · rw [if_neg c6] at H
                exact absurd H (by simp)
            · rw [if_neg c5] at H
              exact absurd H (by simp)
          · rw [if_neg c4] at H
            exact absurd H (by simp)
        · rw [if_neg c3] at H
          exact absurd H (by simp)
      · rw [if_neg c2] at H
        have c2b0 : decide (x4_1 < (a0.size : Int)) = false := decide_eq_false c2
        clear c2
        obtain rfl := Option.some.inj H
        go_wp2
        go_ret
        exact ⟨by first | rfl | (simp; done) | (simp [*]; done), by repeat (first | exact Drawn0.refl _ | apply Drawn0.step)⟩
end Go.Proofs.YtefcbnlljpdjnaaGreatDoor.Q
namespace Go.Proofs.YtefcbnlljpdjnaaGreatDoor.Q
open Go.RowKit Go.Proofs.YtefcbnlljpdjnaaGreatDoorW.PrintWords Go.Proofs.YtefcbnlljpdjnaaGreatDoorW.PrintLast Go.Proofs.YtefcbnlljpdjnaaGreatDoorW.PrintMore
attribute [local go_sem] run_field_23 run_field_24 run_field_27 run_field_28 isSome_setCell max2_int min2_int max_two min_two max_three min_three max_four min_four   -- for this text's walks alone
set_option linter.unusedVariables false
set_option linter.unusedSimpArgs false
def spec_TurnTrie.l0 : Nat → List ByteArray → List ByteArray → Int → Option ((List (S62)) × Bool)
  | 0, _, _, _ => none
  | k + 1, x4, x5, x6 => if x6 < (x5.length : Int) then (if 0 ≤ x6 then ((spec_l5Turned.f k (rdOf ByteArray.empty x5 x6)).bind fun t328 => (if x4.length < 8796093022208 then (spec_TurnTrie.l0 k (x4 ++ [t328]) x5 (wrap64 (x6 + 1))) else (none))) else (none)) else ((spec_l5Made.f k x4).bind fun bt332 => (some (bt332.1, bt332.2)))
def spec_TurnTrie.f (k : Nat) (l0_0 : List (S62)) : Option ((List (S62)) × Bool) := (spec_l2Trie.f k l0_0).bind fun t320 => (if t320 = true then ((spec_l2Words.f k l0_0).bind fun t324 => (spec_TurnTrie.l0 k (([] : List ByteArray)) t324 0)) else (some (([] : List (S62)), false)))
set_option maxHeartbeats 8000000 in
set_option maxRecDepth 100000 in
theorem spec_TurnTrie.calls (k : Nat) (A0_0 : Option Addr) (c0_0 : Nat) (l0_0 : List (S62)) (r1 : List (S62)) (r2 : Bool) (w : World) (hr0_0 : Kd.C k62 w A0_0 l0_0.length l0_0) (hc0_0 : l0_0.length ≤ c0_0) (h : spec_TurnTrie.f k l0_0 = some (r1, r2)) :
    Calls Tryz.prog 7 #[.agg #[.slice A0_0 l0_0.length c0_0]] w fun e w' => ∃ v0_ : Value, e = .returned (.tuple #[.agg #[v0_], .bool r2]) ∧ Kd.R k62 62 w' w.heap.size (fun _ => True) v0_ r1 ∧ Below w.heap.size w w' := by
  have hu28 := Tryz.underlying28
  have HR0_0 := Aside0.mk hr0_0
  have HC0_0 := Aside0.mk hc0_0
  clear hr0_0 hc0_0
  have HB := Aside0.mk (Below.refl w.heap.size w)
  have H : ((spec_l2Trie.f k l0_0).bind fun t320 => (if t320 = true then ((spec_l2Words.f k l0_0).bind fun t324 => (spec_TurnTrie.l0 k (([] : List ByteArray)) t324 0)) else (some (([] : List (S62)), false)))) = some (r1, r2) := h
  clear h
  replace H := Option.bind_eq_some_iff.mp H
  obtain ⟨t320, A20, H⟩ := H
  replace H : (if t320 = true then ((spec_l2Words.f k l0_0).bind fun t324 => (spec_TurnTrie.l0 k (([] : List ByteArray)) t324 0)) else (some (([] : List (S62)), false))) = some (r1, r2) := H
  have A2 := Aside0.mk A20
  clear A20
  by_cases c3 : t320 = true
  · subst c3
    have H1 : ((spec_l2Words.f k l0_0).bind fun t324 => (spec_TurnTrie.l0 k (([] : List ByteArray)) t324 0)) = some (r1, r2) := by rw [if_pos rfl] at H; exact H
    clear H
    have H := H1
    clear H1
    obtain ⟨y321, hy321⟩ : ∃ y_ : List ByteArray, y_ = (([] : List ByteArray)) := ⟨_, rfl⟩
    replace H : ((spec_l2Words.f k l0_0).bind fun t324 => (spec_TurnTrie.l0 k y321 t324 0)) = some (r1, r2) := by first | (rw [hy321]; with_reducible exact H) | (have H2_ := (Option.bind_some _ _).symm.trans H; rw [hy321]; with_reducible exact H2_) | (have H2_ := (Option.bind_some _ _).symm.trans H; with_reducible exact H2_) | with_reducible exact H | (rw [hy321]; exact H) | exact H
    have Ny321 := Aside0.mk hy321
    clear hy321
    replace H := Option.bind_eq_some_iff.mp H
    obtain ⟨t324, A40, H⟩ := H
    replace H : (spec_TurnTrie.l0 k y321 t324 0) = some (r1, r2) := H
    have A4 := Aside0.mk A40
    clear A40
    have H' := Aside0.mk H
    clear H
    go_enter Tryz.func7, Tryz.ntmps7
    go_wp2_with (first | ((with_reducible refine gate_dst (N := 1) rfl ?_); refine box_event ?hg (N := 1) ?hd (cs := #[.slice A0_0 l0_0.length c0_0]) (t := 28) ?hr ?_; (case hd => rfl); (case hg => rfl); (case hr => first | (go_simp; done) | (go_simp; rfl)); intro gb318 hg w5 hbox hb; have n0_ := Aside0.mk (below_step (by repeat (first | (with_reducible first | exact HB.out | apply below_alloc | apply pw_below_drewN | apply below_drew1) | exact HB.out)) hb); have n1_ := Aside0.mk (hbox); have n2_ := Aside0.mk ((by rw [hg]; exact (below_size (by repeat (first | (with_reducible first | exact HB.out | apply below_alloc | apply pw_below_drewN | apply below_drew1) | exact HB.out))) : w.heap.size ≤ gb318)); have n3_ := Aside0.mk ((by rw [hg]; exact (below_size (by repeat (first | (with_reducible first | exact HB.out | apply below_alloc | apply pw_below_drewN | apply below_drew1) | exact HB.out))) : w.heap.size ≤ gb318)); clear HB; have HB := n0_; have BK318 := n1_; have GW318 := n2_; have GE318 := n3_; clear n0_ n1_ n2_ n3_; clear hb hbox hg) | ((with_reducible refine gate_dst (N := 2) rfl ?_); refine box_event ?hg (N := 2) ?hd (cs := #[.slice none 0 0]) (t := 28) ?hr ?_; (case hd => rfl); (case hg => rfl); (case hr => first | (go_simp; done) | (go_simp; rfl)); intro gb319 hg w6 hbox hb; have n0_ := Aside0.mk (blk_below (g := gb318) (o := .cells #[.slice A0_0 l0_0.length c0_0] 28 (0, 0)) (by (with_reducible repeat (first | refine blk_drewN ?_ _ | refine blk_drew ?_ | refine blk_alloc ?_ _)); exact BK318.out) hb); have n1_ := Aside0.mk (below_step (by repeat (first | (with_reducible first | exact HB.out | apply below_alloc | apply pw_below_drewN | apply below_drew1 | refine below_set ?_ GE318.out) | exact HB.out)) hb); have n2_ := Aside0.mk (hbox); have n3_ := Aside0.mk ((by rw [hg]; exact (below_size (by repeat (first | (with_reducible first | exact HB.out | apply below_alloc | apply pw_below_drewN | apply below_drew1 | refine below_set ?_ GE318.out) | exact HB.out))) : w.heap.size ≤ gb319)); have n4_ := Aside0.mk ((by rw [hg]; exact (below_size (by repeat (first | (with_reducible first | exact HB.out | apply below_alloc | apply pw_below_drewN | apply below_drew1 | refine below_set ?_ GE318.out) | exact HB.out))) : w.heap.size ≤ gb319)); have n5_ := Aside0.mk ((by rw [hg]; exact Nat.ne_of_lt (blk_lt (g := gb318) (o := .cells #[.slice A0_0 l0_0.length c0_0] 28 (0, 0)) (by (with_reducible repeat (first | refine blk_drewN ?_ _ | refine blk_drew ?_ | refine blk_alloc ?_ _)); exact BK318.out)) : gb318 ≠ gb319)); have n6_ := Aside0.mk ((by rw [hg]; exact Nat.ne_of_gt (blk_lt (g := gb318) (o := .cells #[.slice A0_0 l0_0.length c0_0] 28 (0, 0)) (by (with_reducible repeat (first | refine blk_drewN ?_ _ | refine blk_drew ?_ | refine blk_alloc ?_ _)); exact BK318.out)) : gb319 ≠ gb318)); clear BK318; clear HB; have BK318 := n0_; have HB := n1_; have BK319 := n2_; have GW319 := n3_; have GE319 := n4_; have NB318_319 := n5_; have NB319_318 := n6_; clear n0_ n1_ n2_ n3_ n4_ n5_ n6_; clear hb hbox hg; have hnb7 := NB318_319.out; have hnc7 := NB319_318.out; have hcz8_0 : w6.cell? ⟨gb318, 0, none⟩ = some (.slice A0_0 l0_0.length c0_0) := (blk_cell BK318.out 0).trans rfl; have hfz8_0 := blk_frozen BK318.out 0) | ((with_reducible refine gate_callee (f := 21) rfl ?_); refine goesL_ (some 8) rfl rfl Tryz.func21 (by kernel_rfl) rfl #[.agg #[.slice A0_0 l0_0.length c0_0]] rfl (by (try simp only [List.map_toArray, List.map_cons, List.map_nil]); first | done | rfl | (simp only [List.length_drop, List.length_take]; rfl)) ?_; (with_reducible refine (spec_l2Trie.calls k _ _ l0_0 true _ ?side1 ?side2 A2.out).mono ?_); (case side1 => repeat (first | exact (Kd.C_below HR0_0.out HB.out) | (with_reducible refine Kd.C_alloc ?_ _) | (with_reducible refine Kd.C_drewN ?_ _) | (with_reducible refine Kd.C_drew ?_))); (case side2 => exact HC0_0.out); rintro e w9 ⟨rfl, hb⟩; refine ⟨_, rfl, ?_⟩; have n0_ := Aside0.mk (blk_below (g := gb318) (o := .cells #[.slice A0_0 l0_0.length c0_0] 28 (0, 0)) (by (with_reducible repeat (first | refine blk_drewN ?_ _ | refine blk_drew ?_ | refine blk_alloc ?_ _)); exact BK318.out) hb); have n1_ := Aside0.mk (blk_below (g := gb319) (o := .cells #[.slice none 0 0] 28 (0, 0)) (by (with_reducible repeat (first | refine blk_drewN ?_ _ | refine blk_drew ?_ | refine blk_alloc ?_ _)); exact BK319.out) hb); have n2_ := Aside0.mk (below_step (by repeat (first | (with_reducible first | exact HB.out | apply below_alloc | apply pw_below_drewN | apply below_drew1 | refine below_set ?_ GE318.out | refine below_set ?_ GE319.out) | exact HB.out)) hb); clear BK318; clear BK319; clear HB; have BK318 := n0_; have BK319 := n1_; have HB := n2_; clear n0_ n1_ n2_; (try clear hb); (try clear hb2); (try clear hk); (try clear hi)) | ((with_reducible refine gate_dst (N := 11) rfl ?_); refine Kd.R_lit Kd.string _ 9 ?hg (N := 11) ?hd (xs := ([] : List ByteArray)) (inner := []) (ok := fun _ => True) (okp := fun _ => True) ?hr ?hp (fun _ hk => hk) trivial (Below.refl _ _) (Nat.le_refl _) (by simp) ?_; (case hd => rfl); (case hg => rfl); (case hr => first | (go_simp; done) | (go_simp; rfl)); (case hp => exact (Reps.none _ _)); intro v322 w10 ho11 hb hg_ hnew_; clear hg_ hnew_; (first | rw [← Ny321.out] at ho11 | (simp only [Int.reduceToNat] at ho11; rw [← Ny321.out] at ho11)); have n0_ := Aside0.mk (Kd.R_lower ho11 (below_size (by repeat (first | (with_reducible first | exact HB.out | apply below_alloc | apply pw_below_drewN | apply below_drew1 | refine below_set ?_ GE318.out | refine below_set ?_ GE319.out) | exact HB.out)))); have n1_ := Aside0.mk (blk_below (g := gb318) (o := .cells #[.slice A0_0 l0_0.length c0_0] 28 (0, 0)) (by (with_reducible repeat (first | refine blk_drewN ?_ _ | refine blk_drew ?_ | refine blk_alloc ?_ _)); exact BK318.out) hb); have n2_ := Aside0.mk (blk_below (g := gb319) (o := .cells #[.slice none 0 0] 28 (0, 0)) (by (with_reducible repeat (first | refine blk_drewN ?_ _ | refine blk_drew ?_ | refine blk_alloc ?_ _)); exact BK319.out) hb); have n3_ := Aside0.mk (below_step (by repeat (first | (with_reducible first | exact HB.out | apply below_alloc | apply pw_below_drewN | apply below_drew1 | refine below_set ?_ GE318.out | refine below_set ?_ GE319.out) | exact HB.out)) hb); clear BK318; clear BK319; clear HB; have HO323 := n0_; have BK318 := n1_; have BK319 := n2_; have HB := n3_; clear n0_ n1_ n2_ n3_; clear hb ho11; have hcz12_0 : w10.cell? ⟨gb318, 0, none⟩ = some (.slice A0_0 l0_0.length c0_0) := (blk_cell BK318.out 0).trans rfl; have hfz12_0 := blk_frozen BK318.out 0) | ((with_reducible refine gate_callee (f := 22) rfl ?_); refine goesL_ (some 13) rfl rfl Tryz.func22 (by kernel_rfl) rfl #[.agg #[.slice A0_0 l0_0.length c0_0]] rfl (by (try simp only [List.map_toArray, List.map_cons, List.map_nil]); first | done | rfl | (simp only [List.length_drop, List.length_take]; rfl)) ?_; (with_reducible refine (spec_l2Words.calls k _ _ l0_0 t324 _ ?side1 ?side2 A4.out).mono ?_); (case side1 => repeat (first | exact (Kd.C_below HR0_0.out HB.out) | (with_reducible refine Kd.C_alloc ?_ _) | (with_reducible refine Kd.C_drewN ?_ _) | (with_reducible refine Kd.C_drew ?_))); (case side2 => exact HC0_0.out); rintro e w13 ⟨v325, rfl, ho0, hb⟩; refine ⟨_, rfl, ?_⟩; have n0_ := Aside0.mk (Kd.R_elder' (by (with_reducible repeat (first | apply Kd.R_alloc | apply Kd.R_drewN | apply Kd.R_drew)); exact HO323.out) (Kd.R_base ho0) hb); have n1_ := Aside0.mk (Kd.R_lower (Kd.R_new' ho0 (Kd.R_lt (by (with_reducible repeat (first | apply Kd.R_alloc | apply Kd.R_drewN | apply Kd.R_drew)); exact HO323.out))) (below_size (by repeat (first | (with_reducible first | exact HB.out | apply below_alloc | apply pw_below_drewN | apply below_drew1 | refine below_set ?_ GE318.out | refine below_set ?_ GE319.out) | exact HB.out)))); have n2_ := Aside0.mk (blk_below (g := gb318) (o := .cells #[.slice A0_0 l0_0.length c0_0] 28 (0, 0)) (by (with_reducible repeat (first | refine blk_drewN ?_ _ | refine blk_drew ?_ | refine blk_alloc ?_ _)); exact BK318.out) hb); have n3_ := Aside0.mk (blk_below (g := gb319) (o := .cells #[.slice none 0 0] 28 (0, 0)) (by (with_reducible repeat (first | refine blk_drewN ?_ _ | refine blk_drew ?_ | refine blk_alloc ?_ _)); exact BK319.out) hb); have n4_ := Aside0.mk (below_step (by repeat (first | (with_reducible first | exact HB.out | apply below_alloc | apply pw_below_drewN | apply below_drew1 | refine below_set ?_ GE318.out | refine below_set ?_ GE319.out) | exact HB.out)) hb); clear HO323; clear BK318; clear BK319; clear HB; have HO323 := n0_; have HO326 := n1_; have BK318 := n2_; have BK319 := n3_; have HB := n4_; clear n0_ n1_ n2_ n3_ n4_; (try clear hb); (try clear hb2); (try clear hk); (try clear hi); (try clear ho0)))
    go_loopg [4, 6] k (fun kq v4 v6 w' => ∃ (x4_1 : List ByteArray) (x6_1 : Int), v6 = .int .i64 x6_1 ∧ Aside0 (spec_TurnTrie.l0 kq x4_1 t324 x6_1 = some (r1, r2)) ∧ Aside0 (kq ≤ k) ∧ Aside0 (Kd.R Kd.string 9 w' w.heap.size (fun k_ => some k_ ≠ (v325 : Value).ownBlock) v4 x4_1) ∧ Aside0 (Kd.R Kd.string 9 w' w.heap.size (fun k_ => some k_ ≠ (v4 : Value).ownBlock) v325 t324) ∧ Aside0 (w'.heap[gb318]? = some (.cells #[(.slice A0_0 l0_0.length c0_0)] 28 (0, 0))) ∧ Aside0 (w'.heap[gb319]? = some (.cells #[(.slice none 0 0)] 28 (0, 0))) ∧ Aside0 (Below w.heap.size w w'))
    case atStart => exact ⟨(y321), (0), (by first | rfl | (simp; done) | (simp [*]; done)), H', ⟨Nat.le_refl _⟩, ⟨by (with_reducible repeat (first | apply Kd.R_alloc | apply Kd.R_drewN | apply Kd.R_drew)); exact Kd.R_mono HO323.out (fun _ hk => hk.2)⟩, ⟨by (with_reducible repeat (first | apply Kd.R_alloc | apply Kd.R_drewN | apply Kd.R_drew)); exact Kd.R_mono HO326.out (fun _ hk => hk.2)⟩, ⟨by (with_reducible repeat (first | refine blk_drewN ?_ _ | refine blk_drew ?_ | refine blk_alloc ?_ _)); exact BK318.out⟩, ⟨by (with_reducible repeat (first | refine blk_drewN ?_ _ | refine blk_drew ?_ | refine blk_alloc ?_ _)); exact BK319.out⟩, ⟨by repeat (first | (with_reducible first | exact HB.out | apply below_alloc | apply pw_below_drewN | apply below_drew1 | refine below_set ?_ GE318.out | refine below_set ?_ GE319.out) | exact HB.out)⟩⟩
    case round =>
      clear H'
      try clear c2
      try clear p2
      try clear c3
      try clear c7
      try clear hcz12_0
      try clear hcz8_0
      try clear hfz12_0
      try clear hfz8_0
      obtain ⟨x4_1, x6_1, rfl, HA, HK1, HO_4, HO_5, BK318, BK319, HB⟩ := hrel
      cases gk with
      | zero => exact absurd HA.out (by simp [spec_TurnTrie.l0])
      | succ k1 =>
        have H := HA.out
        clear HA
        simp only [spec_TurnTrie.l0] at H
        by_cases c14 : x6_1 < (t324.length : Int)
        · rw [if_pos c14] at H
          have c14b0 : decide (x6_1 < (t324.length : Int)) = true := decide_eq_true c14
          clear c14
          by_cases c15 : 0 ≤ x6_1
          · rw [if_pos c15] at H
            have c15b0 : decide (0 ≤ x6_1) = true := decide_eq_true c15
            clear c15
            replace H := Option.bind_eq_some_iff.mp H
            obtain ⟨t328, A160, H⟩ := H
            replace H : (if x4_1.length < 8796093022208 then (spec_TurnTrie.l0 k1 (x4_1 ++ [t328]) t324 (wrap64 (x6_1 + 1))) else (none)) = some (r1, r2) := H
            have A16 := Aside0.mk A160
            clear A160
            by_cases c17 : x4_1.length < 8796093022208
            · rw [if_pos c17] at H
              have LMc17 := Aside0.mk c17
              clear c17
              obtain ⟨y329, hy329⟩ : ∃ y_ : List ByteArray, y_ = (x4_1 ++ [t328]) := ⟨_, rfl⟩
              replace H : (spec_TurnTrie.l0 k1 y329 t324 (wrap64 (x6_1 + 1))) = some (r1, r2) := by first | (rw [hy329]; with_reducible exact H) | (have H2_ := (Option.bind_some _ _).symm.trans H; rw [hy329]; with_reducible exact H2_) | (have H2_ := (Option.bind_some _ _).symm.trans H; with_reducible exact H2_) | with_reducible exact H | (rw [hy329]; exact H) | exact H
              have Ny329 := Aside0.mk hy329
              clear hy329
              have H' := Aside0.mk H
              clear H
              obtain ⟨Ao18, co18, eo18⟩ := Kd.R_slice HO_5.out
              subst eo18
              have p327 : 0 ≤ (x6_1 : Int) := of_decide_eq_true (by first | (with_reducible assumption) | assumption)
              have q327 : x6_1 < (t324.length : Int) := of_decide_eq_true (by first | (with_reducible assumption) | assumption)
              obtain ⟨ad327, e327, hx327_0⟩ := Kd.at_string (Kd.R_reads' HO_5.out).2.2 x6_1 p327 q327
              cases e327
              replace p327 := eq_true p327
              replace q327 := eq_true q327
              go_wp2_with (first | ((with_reducible refine gate_callee (f := 23) rfl ?_); refine goesL_ (some 25) rfl rfl Tryz.func23 (by kernel_rfl) rfl #[.string (rdOf ByteArray.empty t324 x6_1)] rfl (by (try simp only [List.map_toArray, List.map_cons, List.map_nil]); first | done | rfl | (simp only [List.length_drop, List.length_take]; rfl)) ?_; (with_reducible refine (spec_l5Turned.calls k1 (rdOf ByteArray.empty t324 x6_1) t328 _ A16.out).mono ?_); rintro e w' ⟨rfl, ⟨nd, rfl⟩⟩; refine ⟨_, rfl, ?_⟩) | ((with_reducible refine gate_builtin (b := .append) (xs := #[.tmp 20, .tmp 26]) rfl ?_); at_builtin; refine Kd.R_append Kd.string (w0 := w) w.heap.size rfl (.tmp 20) (.tmp 26) 35 9 (.string ⟨#[]⟩) 16 rfl Tryz.underlying35 info9 rfl (by decide) (by omega) u4 x4_1 t328 [.string t328] (fun k_ => some k_ ≠ (.slice (some ad327) t324.length co18 : Value).ownBlock) (fun _ => False) rfl rfl ?aP (fun _ hk => hk.elim) ?aF ?aO ?aB ?aS ?aL ?_; (case aP => exact rfl); (case aB => exact (by repeat (first | (with_reducible first | exact HB.out | apply below_alloc | apply pw_below_drewN | apply below_drew1 | refine below_set ?_ GE318.out | refine below_set ?_ GE319.out) | exact HB.out))); (case aF => exact (fun k_ hk => Kd.fresh' (Kd.R_lt (by (with_reducible repeat (first | apply Kd.R_alloc | apply Kd.R_drewN | apply Kd.R_drew)); exact HO_5.out)) k_ hk)); (case aO => exact (by (with_reducible repeat (first | apply Kd.R_alloc | apply Kd.R_drewN | apply Kd.R_drew)); exact HO_4.out)); (case aS => exact (below_size (by repeat (first | (with_reducible first | exact HB.out | apply below_alloc | apply pw_below_drewN | apply below_drew1 | refine below_set ?_ GE318.out | refine below_set ?_ GE319.out) | exact HB.out)))); (case aL => have := LMc17.out; omega); intro v330 w19 ho hb hg hat; rw [← Ny329.out] at ho; have n0_ := Aside0.mk (Kd.R_after (ok := (fun _ => True)) (by (with_reducible repeat (first | apply Kd.R_alloc | apply Kd.R_drewN | apply Kd.R_drew)); exact Kd.R_mono HO_5.out (fun _ hk => ⟨trivial, hk⟩)) hg hat); have n1_ := Aside0.mk (blk_grown (g := gb318) (o := .cells #[.slice A0_0 l0_0.length c0_0] 28 (0, 0)) (by (with_reducible repeat (first | refine blk_drewN ?_ _ | refine blk_drew ?_ | refine blk_alloc ?_ _)); exact BK318.out) hg (Kd.R_ne HO_4.out BK318.out (by decide))); have n2_ := Aside0.mk (blk_grown (g := gb319) (o := .cells #[.slice none 0 0] 28 (0, 0)) (by (with_reducible repeat (first | refine blk_drewN ?_ _ | refine blk_drew ?_ | refine blk_alloc ?_ _)); exact BK319.out) hg (Kd.R_ne HO_4.out BK319.out (by decide))); have n3_ := Aside0.mk (hb); have n4_ := Aside0.mk (ho); clear HO_5; clear BK318; clear BK319; clear HB; clear HO_4; have HO_5 := n0_; have BK318 := n1_; have BK319 := n2_; have HB := n3_; have HO331 := n4_; clear n0_ n1_ n2_ n3_ n4_; clear ho hb hg hat))
              go_roundg k1
              case measure => have := HK1.out; omega
              case rel => exact ⟨(y329), (wrap64 (x6_1 + 1)), (by first | rfl | (simp; done) | (simp [*]; done)), H', ⟨by have := HK1.out; omega⟩, ⟨by (with_reducible repeat (first | apply Kd.R_alloc | apply Kd.R_drewN | apply Kd.R_drew)); exact HO331.out⟩, ⟨by (with_reducible repeat (first | apply Kd.R_alloc | apply Kd.R_drewN | apply Kd.R_drew)); exact Kd.R_mono HO_5.out (fun _ hk => hk.2)⟩, ⟨by (with_reducible repeat (first | refine blk_drewN ?_ _ | refine blk_drew ?_ | refine blk_alloc ?_ _)); exact BK318.out⟩, ⟨by (with_reducible repeat (first | refine blk_drewN ?_ _ | refine blk_drew ?_ | refine blk_alloc ?_ _)); exact BK319.out⟩, ⟨by repeat (first | (with_reducible first | exact HB.out | apply below_alloc | apply pw_below_drewN | apply below_drew1 | refine below_set ?_ GE318.out | refine below_set ?_ GE319.out) | exact HB.out)⟩⟩
            · rw [if_neg c17] at H
              exact absurd H (by simp)
          · rw [if_neg c15] at H
            exact absurd H (by simp)
        · rw [if_neg c14] at H
          have c14b0 : decide (x6_1 < (t324.length : Int)) = false := decide_eq_false c14
          clear c14
          replace H := Option.bind_eq_some_iff.mp H
          obtain ⟨⟨t332, t335⟩, A200, H⟩ := H
          replace H : (some (t332, t335)) = some (r1, r2) := H
          have A20 := Aside0.mk A200
          clear A200
          simp only [Option.some.injEq, Prod.mk.injEq] at H
          obtain ⟨rfl, rfl⟩ := H
          obtain ⟨Ao21, co21, eo21⟩ := Kd.R_slice HO_5.out
          subst eo21
          obtain ⟨Ao22, co22, eo22⟩ := Kd.R_slice HO_4.out
          subst eo22
          go_wp2_with (first | ((with_reducible refine gate_callee (f := 24) rfl ?_); refine goesL_ (some 29) rfl rfl Tryz.func24 (by kernel_rfl) rfl #[.slice Ao22 x4_1.length co22] rfl (by (try simp only [List.map_toArray, List.map_cons, List.map_nil]); first | done | rfl | (simp only [List.length_drop, List.length_take]; rfl)) ?_; (with_reducible refine (spec_l5Made.calls k1 _ _ x4_1 t332 t335 _ ?side1 ?side2 A20.out).mono ?_); (case side1 => repeat (first | exact (Kd.R_reads' HO_4.out).2.2 | (with_reducible refine Kd.C_alloc ?_ _) | (with_reducible refine Kd.C_drewN ?_ _) | (with_reducible refine Kd.C_drew ?_))); (case side2 => exact (Kd.R_reads' HO_4.out).2.1); rintro e w23 ⟨v333, rfl, ho0, hb⟩; refine ⟨_, rfl, ?_⟩; have n0_ := Aside0.mk (Kd.R_below (by (with_reducible repeat (first | apply Kd.R_alloc | apply Kd.R_drewN | apply Kd.R_drew)); exact HO_4.out) hb); have n1_ := Aside0.mk (Kd.R_below (by (with_reducible repeat (first | apply Kd.R_alloc | apply Kd.R_drewN | apply Kd.R_drew)); exact HO_5.out) hb); have n2_ := Aside0.mk (Kd.R_lower ho0 (below_size (by repeat (first | (with_reducible first | exact HB.out | apply below_alloc | apply pw_below_drewN | apply below_drew1 | refine below_set ?_ GE318.out | refine below_set ?_ GE319.out) | exact HB.out)))); have n3_ := Aside0.mk (blk_below (g := gb318) (o := .cells #[.slice A0_0 l0_0.length c0_0] 28 (0, 0)) (by (with_reducible repeat (first | refine blk_drewN ?_ _ | refine blk_drew ?_ | refine blk_alloc ?_ _)); exact BK318.out) hb); have n4_ := Aside0.mk (blk_below (g := gb319) (o := .cells #[.slice none 0 0] 28 (0, 0)) (by (with_reducible repeat (first | refine blk_drewN ?_ _ | refine blk_drew ?_ | refine blk_alloc ?_ _)); exact BK319.out) hb); have n5_ := Aside0.mk (below_step (by repeat (first | (with_reducible first | exact HB.out | apply below_alloc | apply pw_below_drewN | apply below_drew1 | refine below_set ?_ GE318.out | refine below_set ?_ GE319.out) | exact HB.out)) hb); clear HO_4; clear HO_5; clear BK318; clear BK319; clear HB; have HO_4 := n0_; have HO_5 := n1_; have HO334 := n2_; have BK318 := n3_; have BK319 := n4_; have HB := n5_; clear n0_ n1_ n2_ n3_ n4_ n5_; (try clear hb); (try clear hb2); (try clear hk); (try clear hi); (try clear ho0); obtain ⟨Ao24, co24, eo24⟩ := Kd.R_slice HO334.out; subst eo24; have hnb25 := NB319_318.out; have hnc25 := NB318_319.out; have hcz26_0 : w23.cell? ⟨gb319, 0, none⟩ = some (.slice none 0 0) := (blk_cell BK319.out 0).trans rfl; have hfz26_0 := blk_frozen BK319.out 0))
          refine bodyPost_ret (results_ct rfl _ _ gb319 28 #[.slice Ao24 t332.length co24] (0, 0) _ rfl (by (with_reducible repeat (first | refine blk_drewN ?_ _ | refine blk_drew ?_ | refine blk_alloc ?_ _)); refine blk_put (cs := #[.slice none 0 0]) ?_ 0 _ rfl; (with_reducible repeat (first | refine blk_drewN ?_ _ | refine blk_drew ?_ | refine blk_alloc ?_ _)); exact BK319.out) Tryz.underlying28 rfl (by kernel_rfl)) rfl ?_
          exact ⟨_, by first | rfl | (simp [errW_none, errW_some] <;> rfl) | (simp [*, errW_none, errW_some] <;> rfl), by (with_reducible repeat (first | apply Kd.R_alloc | apply Kd.R_drewN | apply Kd.R_drew)); exact Kd.R_mono (R_same_ (Kd.R_far (p := ⟨gb319, 0, none⟩) (Kd.R_types HO334.out BK319.out (by decide)) (fun _ hk => hk.2) (.slice Ao24 t332.length co24)) rfl) (fun _ hk => trivial), by repeat (first | (with_reducible first | exact HB.out | apply below_alloc | apply pw_below_drewN | apply below_drew1 | refine below_set ?_ GE318.out | refine below_set ?_ GE319.out) | exact HB.out)⟩
  · replace c3 := Bool.eq_false_iff.mpr c3
    subst c3
    have H1 : (some (([] : List (S62)), false)) = some (r1, r2) := by rw [if_neg (show ¬ (false = true) by decide)] at H; exact H
    clear H
    have H := H1
    clear H1
    simp only [Option.some.injEq, Prod.mk.injEq] at H
    obtain ⟨rfl, rfl⟩ := H
    go_enter Tryz.func7, Tryz.ntmps7
    go_wp2_with (first | ((with_reducible refine gate_dst (N := 1) rfl ?_); refine box_event ?hg (N := 1) ?hd (cs := #[.slice A0_0 l0_0.length c0_0]) (t := 28) ?hr ?_; (case hd => rfl); (case hg => rfl); (case hr => first | (go_simp; done) | (go_simp; rfl)); intro gb318 hg w27 hbox hb; have n0_ := Aside0.mk (below_step (by repeat (first | (with_reducible first | exact HB.out | apply below_alloc | apply pw_below_drewN | apply below_drew1) | exact HB.out)) hb); have n1_ := Aside0.mk (hbox); have n2_ := Aside0.mk ((by rw [hg]; exact (below_size (by repeat (first | (with_reducible first | exact HB.out | apply below_alloc | apply pw_below_drewN | apply below_drew1) | exact HB.out))) : w.heap.size ≤ gb318)); have n3_ := Aside0.mk ((by rw [hg]; exact (below_size (by repeat (first | (with_reducible first | exact HB.out | apply below_alloc | apply pw_below_drewN | apply below_drew1) | exact HB.out))) : w.heap.size ≤ gb318)); clear HB; have HB := n0_; have BK318 := n1_; have GW318 := n2_; have GE318 := n3_; clear n0_ n1_ n2_ n3_; clear hb hbox hg) | ((with_reducible refine gate_dst (N := 2) rfl ?_); refine box_event ?hg (N := 2) ?hd (cs := #[.slice none 0 0]) (t := 28) ?hr ?_; (case hd => rfl); (case hg => rfl); (case hr => first | (go_simp; done) | (go_simp; rfl)); intro gb319 hg w28 hbox hb; have n0_ := Aside0.mk (blk_below (g := gb318) (o := .cells #[.slice A0_0 l0_0.length c0_0] 28 (0, 0)) (by (with_reducible repeat (first | refine blk_drewN ?_ _ | refine blk_drew ?_ | refine blk_alloc ?_ _)); exact BK318.out) hb); have n1_ := Aside0.mk (below_step (by repeat (first | (with_reducible first | exact HB.out | apply below_alloc | apply pw_below_drewN | apply below_drew1 | refine below_set ?_ GE318.out) | exact HB.out)) hb); have n2_ := Aside0.mk (hbox); have n3_ := Aside0.mk ((by rw [hg]; exact (below_size (by repeat (first | (with_reducible first | exact HB.out | apply below_alloc | apply pw_below_drewN | apply below_drew1 | refine below_set ?_ GE318.out) | exact HB.out))) : w.heap.size ≤ gb319)); have n4_ := Aside0.mk ((by rw [hg]; exact (below_size (by repeat (first | (with_reducible first | exact HB.out | apply below_alloc | apply pw_below_drewN | apply below_drew1 | refine below_set ?_ GE318.out) | exact HB.out))) : w.heap.size ≤ gb319)); have n5_ := Aside0.mk ((by rw [hg]; exact Nat.ne_of_lt (blk_lt (g := gb318) (o := .cells #[.slice A0_0 l0_0.length c0_0] 28 (0, 0)) (by (with_reducible repeat (first | refine blk_drewN ?_ _ | refine blk_drew ?_ | refine blk_alloc ?_ _)); exact BK318.out)) : gb318 ≠ gb319)); have n6_ := Aside0.mk ((by rw [hg]; exact Nat.ne_of_gt (blk_lt (g := gb318) (o := .cells #[.slice A0_0 l0_0.length c0_0] 28 (0, 0)) (by (with_reducible repeat (first | refine blk_drewN ?_ _ | refine blk_drew ?_ | refine blk_alloc ?_ _)); exact BK318.out)) : gb319 ≠ gb318)); clear BK318; clear HB; have BK318 := n0_; have HB := n1_; have BK319 := n2_; have GW319 := n3_; have GE319 := n4_; have NB318_319 := n5_; have NB319_318 := n6_; clear n0_ n1_ n2_ n3_ n4_ n5_ n6_; clear hb hbox hg; have hnb29 := NB318_319.out; have hnc29 := NB319_318.out; have hcz30_0 : w28.cell? ⟨gb318, 0, none⟩ = some (.slice A0_0 l0_0.length c0_0) := (blk_cell BK318.out 0).trans rfl; have hfz30_0 := blk_frozen BK318.out 0) | ((with_reducible refine gate_callee (f := 21) rfl ?_); refine goesL_ (some 8) rfl rfl Tryz.func21 (by kernel_rfl) rfl #[.agg #[.slice A0_0 l0_0.length c0_0]] rfl (by (try simp only [List.map_toArray, List.map_cons, List.map_nil]); first | done | rfl | (simp only [List.length_drop, List.length_take]; rfl)) ?_; (with_reducible refine (spec_l2Trie.calls k _ _ l0_0 false _ ?side1 ?side2 A2.out).mono ?_); (case side1 => repeat (first | exact (Kd.C_below HR0_0.out HB.out) | (with_reducible refine Kd.C_alloc ?_ _) | (with_reducible refine Kd.C_drewN ?_ _) | (with_reducible refine Kd.C_drew ?_))); (case side2 => exact HC0_0.out); rintro e w31 ⟨rfl, hb⟩; refine ⟨_, rfl, ?_⟩; have n0_ := Aside0.mk (blk_below (g := gb318) (o := .cells #[.slice A0_0 l0_0.length c0_0] 28 (0, 0)) (by (with_reducible repeat (first | refine blk_drewN ?_ _ | refine blk_drew ?_ | refine blk_alloc ?_ _)); exact BK318.out) hb); have n1_ := Aside0.mk (blk_below (g := gb319) (o := .cells #[.slice none 0 0] 28 (0, 0)) (by (with_reducible repeat (first | refine blk_drewN ?_ _ | refine blk_drew ?_ | refine blk_alloc ?_ _)); exact BK319.out) hb); have n2_ := Aside0.mk (below_step (by repeat (first | (with_reducible first | exact HB.out | apply below_alloc | apply pw_below_drewN | apply below_drew1 | refine below_set ?_ GE318.out | refine below_set ?_ GE319.out) | exact HB.out)) hb); clear BK318; clear BK319; clear HB; have BK318 := n0_; have BK319 := n1_; have HB := n2_; clear n0_ n1_ n2_; (try clear hb); (try clear hb2); (try clear hk); (try clear hi); have hcz32_0 : w31.cell? ⟨gb319, 0, none⟩ = some (.slice none 0 0) := (blk_cell BK319.out 0).trans rfl; have hfz32_0 := blk_frozen BK319.out 0))
    refine bodyPost_ret (results_ct rfl _ _ gb319 28 #[.slice none 0 0] (0, 0) _ rfl (by (with_reducible repeat (first | refine blk_drewN ?_ _ | refine blk_drew ?_ | refine blk_alloc ?_ _)); refine blk_put (cs := #[.slice none 0 0]) ?_ 0 _ rfl; (with_reducible repeat (first | refine blk_drewN ?_ _ | refine blk_drew ?_ | refine blk_alloc ?_ _)); exact BK319.out) Tryz.underlying28 rfl (by kernel_rfl)) rfl ?_
    exact ⟨_, by first | rfl | (simp [errW_none, errW_some] <;> rfl) | (simp [*, errW_none, errW_some] <;> rfl), by first | exact Kd.R_nil _ _ _ _ _ | exact Kd.N_nil _ _ _ _ _ | exact Kd.V_nil _ _ _ _ _ | exact Kd.Q_nil _ _ _ _ _ | exact Kd.S_nil _ _ _ _ _, by repeat (first | (with_reducible first | exact HB.out | apply below_alloc | apply pw_below_drewN | apply below_drew1 | refine below_set ?_ GE318.out | refine below_set ?_ GE319.out) | exact HB.out)⟩
end Go.Proofs.YtefcbnlljpdjnaaGreatDoor.Q
namespace Go.Proofs.YtefcbnlljpdjnaaGreatDoor.Q
open Go.RowKit Go.Sort Go.Shelf Go.Proofs.YtefcbnlljpdjnaaGreatDoorW.PrintWords Go.Proofs.YtefcbnlljpdjnaaGreatDoorW.PrintLast Go.Proofs.YtefcbnlljpdjnaaGreatDoorW.PrintMore
set_option linter.unusedVariables false
def wordsV (l : List IN) : List ByteArray := match prefixesW l with
  | some ps => wordsW l ps
  | none => []
theorem wordsV_trie {ws : List ByteArray} (h : VW ws) : wordsV (trieW ws) = ws := by
  unfold wordsV
  rw [prefixesW_trie h]
  exact wordsW_trie h.ss
theorem trie_split (l : List IN) : isTrieW l = false ∨ ∃ ws, VW ws ∧ l = trieW ws ∧ isTrieW l = true ∧ wordsV l = ws := by
  rcases trie_cases l with h | ⟨ws, hv, rfl, ht⟩
  · exact .inl h
  · exact .inr ⟨ws, hv, rfl, ht, wordsV_trie hv⟩
theorem box_at {w : World} {g t : Nat} {v : Value} (h : w.heap[g]? = some (.cells #[v] t (0, 0))) : w.cell? ⟨g, 0, none⟩ = some v := box_cell h
theorem bsz2 {w w2 : World} {o1 o2 : Obj} (h : Below (w.heap.size + 1 + 1) ((w.alloc o1).alloc o2) w2) : w.heap.size + 1 + 1 ≤ w2.heap.size := by simpa using h.size
theorem box_two (w : World) (v1 v2 : Value) (t1 t2 : Nat) : ∀ W, Below (w.heap.size + 1 + 1) ((w.alloc (.cells #[v1] t1)).alloc (.cells #[v2] t2)) W → W.heap[w.heap.size]? = some (.cells #[v1] t1 (0, 0)) ∧ W.heap[w.heap.size + 1]? = some (.cells #[v2] t2 (0, 0)) := fun W h => by
  have h2 := Go.heap_alloc_new (w.alloc (.cells #[v1] t1)) (.cells #[v2] t2)
  rw [World.size_alloc] at h2
  have h1 : ((w.alloc (.cells #[v1] t1)).alloc (.cells #[v2] t2)).heap[w.heap.size]? = some (.cells #[v1] t1 (0, 0)) := by
    rw [((Below.refl (w.heap.size + 1) (w.alloc (.cells #[v1] t1))).alloc (by simp) (.cells #[v2] t2)).block _ (by omega)]
    exact Go.heap_alloc_new w (.cells #[v1] t1)
  exact ⟨(h.block _ (by omega)).trans h1, (h.block _ (by omega)).trans h2⟩
end Go.Proofs.YtefcbnlljpdjnaaGreatDoor.Q
namespace Go.Proofs.YtefcbnlljpdjnaaGreatDoor.Q
open Go.RowKit Go.Sort Go.Shelf Go.Proofs.YtefcbnlljpdjnaaGreatDoorW.PrintWords Go.Proofs.YtefcbnlljpdjnaaGreatDoorW.PrintLast Go.Proofs.YtefcbnlljpdjnaaGreatDoorW.PrintMore
set_option linter.unusedVariables false
def Turns (g : Nat) (bs lb : Array Value) (f : ByteArray → ByteArray) (base : Nat) (w : World) : Prop :=
  ∀ (x : ByteArray) (W : World), x.size ≤ 12 → Below base w W → Calls Tryz.prog g (bs ++ #[.string x] ++ lb) W fun e W' => e = .returned (.string (f x)) ∧ Below W.heap.size W W'
theorem R_new0 (w : World) (base : Nat) (hb : base ≤ w.heap.size) : Kd.R Kd.string 9 (w.alloc (.cells #[] 9)) base (fun _ => True) (.slice (some ⟨w.heap.size, 0, none⟩) 0 0) [] :=
  R_of_owns ⟨rfl, .inr ⟨w.heap.size, 0, #[], rfl, hb, Go.heap_alloc_new w _, Nat.le_refl _, Nat.zero_le _, rfl, rfl⟩⟩ (fun _ _ => trivial)
def mappedW (f : ByteArray → ByteArray) (l : List IN) : List IN × Bool := if isTrieW l then madeW ((wordsV l).map f) else ([], false)
set_option maxHeartbeats 2000000 in
set_option maxRecDepth 100000 in
theorem mapped_gen (g : Nat) (bs lb : Array Value) (f : ByteArray → ByteArray) (eg : Enters g) (l : List IN) (A : Option Addr) (c : Nat) (w : World) (hr : Kd.C k62 w A l.length l) (hc : l.length ≤ c) (ht : Turns g bs lb f w.heap.size w) :
    Calls Tryz.prog 26 #[.agg #[.slice A l.length c], .func (.func g) bs lb] w fun e w' => ∃ v0 : Value, e = .returned (.tuple #[.agg #[v0], .bool (mappedW f l).2]) ∧ Kd.R k62 62 w' w.heap.size (fun _ => True) v0 (mappedW f l).1 ∧ Below w.heap.size w w' := by
  have HB0 := Aside0.mk (((Below.refl w.heap.size w).alloc (Nat.le_refl _) (.cells #[.slice A l.length c] 28)).alloc (by simp) (.cells #[.slice none 0 0] 28))
  have HX := Aside0.mk (box_two w (.slice A l.length c) (.slice none 0 0) 28 28)
  have HR0 := Aside0.mk hr
  have HC0 := Aside0.mk hc
  have HT := Aside0.mk ht
  obtain ⟨k0, hk0⟩ := (isTrie_ev l).ex
  have HK0 := Aside0.mk hk0
  clear hr hc hk0 ht
  rcases trie_split l with ht0 | ⟨wa, hva, rfl, ht0, hwa⟩
  · have hmw : mappedW f l = ([], false) := by unfold mappedW; rw [ht0]; rfl
    rw [hmw]
    rw [ht0] at HK0
    clear ht0 hmw
    go_enter Tryz.func26, Tryz.ntmps26
    go_wp2_with (go_at_call 44; refine (impl_isTrie.calls k0 A c l false _ (Kd.C_below HR0.out HB0.out) HC0.out HK0.out).mono ?_; rintro e w1 ⟨rfl, hb⟩; have HQ1 := Aside0.mk (show Below (w.heap.size + 1 + 1) _ w1 by simpa using hb); have hx := (HX.out w1 HQ1.out).2; have hxc := box_at hx; have hxf := box_frozen hx; have HXX := Aside0.mk hx; clear hb hx)
    have hfin := blk_put HXX.out 0 (.slice none 0 0) rfl
    refine bodyPost_ret (results_ct rfl _ _ (w.heap.size + 1) 28 #[.slice none 0 0] (0, 0) _ rfl hfin Tryz.underlying28 rfl (by kernel_rfl)) rfl ?_
    exact ⟨_, rfl, Kd.R_nil _ _ _ _ _, (HB0.out.trans (HQ1.out.mono (by omega))).setCell (by simp) _⟩
  · have hmw : mappedW f (trieW wa) = madeW (wa.map f) := by unfold mappedW; rw [ht0, hwa]; rfl
    rw [ht0] at HK0
    have HVA := Aside0.mk hva
    obtain ⟨k2, hk2⟩ := (implWords hva).ex
    have HK2 := Aside0.mk hk2
    have hlen := hva.len
    have HM := Aside0.mk (impl5 (wa.map f) (by rw [List.length_map]; omega))
    obtain ⟨m1, m2, hm⟩ : ∃ m1 m2, madeW (wa.map f) = (m1, m2) := ⟨_, _, rfl⟩
    rw [hmw, hm]
    rw [hm] at HM
    clear ht0 hva hk2 hwa hm hmw
    unfold Enters at eg
    go_enter Tryz.func26, Tryz.ntmps26
    go_wp2_with (first
      | (go_at_call 44; refine (impl_isTrie.calls k0 A c _ true _ (Kd.C_below HR0.out HB0.out) HC0.out HK0.out).mono ?_; rintro e w1 ⟨rfl, hb⟩; have HQ1 := Aside0.mk (show Below (w.heap.size + 1 + 1) _ w1 by simpa using hb); have HQ2 := Aside0.mk (HQ1.out.alloc (bsz2 HQ1.out) (.cells #[] 9)); have hx2 := box_at (HX.out _ HQ2.out).1; have HO0 := Aside0.mk (R_new0 w1 (w.heap.size + 1 + 1) (bsz2 HQ1.out)); clear hb)
      | (go_at_call 45; refine (impl_Trie_words.calls k2 A c _ wa _ (Kd.C_below HR0.out (HB0.out.trans (HQ2.out.mono (by omega)))) HC0.out HK2.out).mono ?_; rintro e w3 ⟨v3, rfl, hr, hb⟩; have HO3 := Aside0.mk (Kd.R_elder' HO0.out (Kd.R_base hr) hb); have HW3 := Aside0.mk (Kd.R_lower (Kd.R_new' hr (Kd.R_lt HO0.out)) (bsz2 HQ2.out)); have HQ3 := Aside0.mk (HQ2.out.trans (hb.mono (bsz2 HQ2.out))); obtain ⟨A3, c3, rfl⟩ := Kd.R_slice hr; clear hr hb))
    go_loopw [6, 17] (fun v i wr => ∃ (u : Value) (k : Nat), u = v ∧ k ≤ wa.length ∧ i = .int .i64 k ∧ Aside0 (Kd.R Kd.string 9 wr (w.heap.size + 1 + 1) (fun j => True ∧ some j ≠ (Value.slice A3 wa.length c3).ownBlock) v ((wa.take k).map f)) ∧ Aside0 (Kd.R Kd.string 9 wr (w.heap.size + 1 + 1) (fun j => True ∧ some j ≠ v.ownBlock) (.slice A3 wa.length c3) wa) ∧ Aside0 (Below (w.heap.size + 1 + 1) ((w.alloc (.cells #[.slice A (trieW wa).length c] 28)).alloc (.cells #[.slice none 0 0] 28)) wr))
      (fun _ i _ => wa.length - (intOf i).toNat)
    case atStart => exact ⟨_, 0, rfl, Nat.zero_le _, rfl, HO3, HW3, HQ3⟩
    case round =>
      obtain ⟨u, k, hu, hk, rfl, HO, HW, HB⟩ := hrel
      subst hu
      by_cases hlt : k < wa.length
      · obtain ⟨ad, e0, hx⟩ := Kd.at_string (Kd.R_reads' HW.out).2.2 (k : Int) (by omega) (by omega)
        cases e0
        simp only [Int.toNat_natCast] at hx
        have hm : rdOf ByteArray.empty wa (k : Int) ∈ wa := by rw [rd_nat wa hlt]; exact List.getElem_mem hlt
        have e1 : (wa.take (k + 1)).map f = (wa.take k).map f ++ [f (rdOf ByteArray.empty wa (k : Int))] := by rw [take_rd wa k hlt, List.map_append]; rfl
        have E1 := Aside0.mk e1
        have h12 := (HVA.out.ok _ hm).1
        have hcall := HT.out (rdOf ByteArray.empty wa (k : Int)) wr h12 (HB0.out.trans (HB.out.mono (by omega)))
        generalize rdOf ByteArray.empty wa (k : Int) = x at hx hcall E1
        generalize f x = y at hcall E1
        have hyl : ((wa.take k).map f).length ≤ 40 := by rw [List.length_map, List.length_take]; omega
        generalize hxs : (wa.take k).map f = xs at HO E1 hyl
        clear hm h12 hxs e1
        go_wp2_with (first
          | (go_at_fn g; refine hcall.mono ?_; rintro e w4 ⟨rfl, hb⟩; have HO4 := Aside0.mk (Kd.R_below HO.out hb); have HW4 := Aside0.mk (Kd.R_below HW.out hb); have HB4 := Aside0.mk (HB.out.trans (hb.mono (bsz2 HB.out))); clear hb)
          | (at_builtin; refine Kd.R_append Kd.string (w0 := (w.alloc (.cells #[.slice A (trieW wa).length c] 28)).alloc (.cells #[.slice none 0 0] 28)) (w.heap.size + 1 + 1) rfl (.tmp 21) (.tmp 25) 35 9 (.string ⟨#[]⟩) 16 rfl Tryz.underlying35 info9 rfl (by decide) (by omega) u xs y [.string y] (fun j => True ∧ some j ≠ (Value.slice (some ad) wa.length c3).ownBlock) (fun _ => False) rfl rfl rfl (fun _ hk => hk.elim) (fun j hj => ⟨trivial, Kd.fresh' (Kd.R_lt HW4.out) j hj⟩) HO4.out HB4.out (bsz2 HB4.out) (by omega) ?_; intro v1 w5 ho hb hg hat; have HO5 := Aside0.mk ho; have HB5 := Aside0.mk hb; have HW5 := Aside0.mk (Kd.R_after (ok := fun _ => True) HW4.out hg hat); clear ho hb hg hat))
        go_roundw
        case rel => exact ⟨_, k + 1, rfl, by omega, by go_num, ⟨by rw [E1.out]; exact HO5.out⟩, HW5, HB5⟩
        case measure => simp [intOf]; omega
      · obtain rfl : k = wa.length := by omega
        rw [List.take_length] at HO
        generalize wa.map f = ms at HO HM
        obtain ⟨Ao, co, rfl⟩ := Kd.R_slice HO.out
        go_wp2_with (go_at_call 37; refine (impl_madeOf.calls Ao co ms m1 m2 _ (Kd.R_reads' HO.out).2.2 (Kd.R_reads' HO.out).2.1 HM.out).mono ?_; rintro e w5 ⟨v5, rfl, hr, hb⟩; obtain ⟨A5, c5, rfl⟩ := Kd.R_slice hr; have HQ5 := Aside0.mk (HB.out.trans (hb.mono (bsz2 HB.out))); have hx := (HX.out w5 HQ5.out).2; have hxc := box_at hx; have hxf := box_frozen hx; have HXX := Aside0.mk hx; have HR5 := Aside0.mk (Kd.R_lower hr (bsz2 HB.out)); clear hr hb hx)
        have hfin := blk_put HXX.out 0 (.slice A5 m1.length c5) rfl
        refine bodyPost_ret (results_ct rfl _ _ (w.heap.size + 1) 28 #[.slice A5 m1.length c5] (0, 0) _ rfl hfin Tryz.underlying28 rfl (by kernel_rfl)) rfl ?_
        exact ⟨_, rfl, Kd.R_lower (Kd.R_mono (Kd.R_move (Kd.R_bound HR5.out) (fun g hg => Below.heap_setCell _ _ _ _ (by have := hg.2.1; simp; omega))) (fun _ hg => trivial)) (by omega), (HB0.out.trans (HQ5.out.mono (by omega))).setCell (by simp) _⟩
end Go.Proofs.YtefcbnlljpdjnaaGreatDoor.Q
namespace Go.Proofs
open Go.Shelf
def Tryz.lRev_ren : Go.Shelf.Ren := ⟨fun | 35 => 28 | n => n, fun | 22 => 49 | 23 => 5 | 3 => 3 | 4 => 4 | 0 => 0 | n => n, fun | n => n⟩
theorem Tryz.lRev : Go.Proofs.SlLaysE.n35 Tryz.prog Tryz.lRev_ren := {
  mixed := by kernel_rfl
  f35 := ⟨Tryz.f28.name, by decide, Tryz.func28.trans (congrArg some (by kernel_rfl))⟩
  t0 := Tryz.underlying0
  a0 := Tryz.isAgg0
  z0 := Tryz.sizeOf0
  v0 := Tryz.zeroValue0
  t3 := Tryz.underlying3
  a3 := Tryz.isAgg3
  z3 := Tryz.sizeOf3
  v3 := Tryz.zeroValue3
  t4 := Tryz.underlying4
  a4 := Tryz.isAgg4
  z4 := Tryz.sizeOf4
  v4 := Tryz.zeroValue4
  t22 := Tryz.underlying49
  a22 := Tryz.isAgg49
  z22 := Tryz.sizeOf49
  v22 := Tryz.zeroValue49
  a23 := Tryz.isAgg5
  z23 := Tryz.sizeOf5 }
end Go.Proofs
namespace Go.Proofs.YtefcbnlljpdjnaaGreatDoor.Q
open Go.RowKit Go.Sort Go.Shelf Go.Proofs.YtefcbnlljpdjnaaGreatDoorW.PrintWords Go.Proofs.YtefcbnlljpdjnaaGreatDoorW.PrintLast Go.Proofs.YtefcbnlljpdjnaaGreatDoorW.PrintMore
set_option linter.unusedVariables false
def turnB (x : ByteArray) : ByteArray := pw (lw x).reverse
def encB (b : UInt8) : Value := .int .u8 (b.toNat : Int)
theorem holds_bytes (w : World) (x : ByteArray) : Holds encB (Lib.bytesWorld w 5 x) w.heap.size 0 (lw x).toArray := fun j hj => by
  have hl : j < (lw x).length := by simpa using hj
  have hx : j < x.size := by rw [← lw_length]; exact hl
  refine ⟨?_, ?_⟩
  · rw [Nat.zero_add, Lib.bytesWorld_cell w 5 x j hx]
    have e : (lw x).toArray[j]! = x.data.toList.getD j 0 := by
      rw [getElem!_pos _ j hj]
      show (lw x).toArray[j] = (lw x).getD j 0
      rw [List.getD_eq_getElem?_getD, List.getElem?_eq_getElem hl]
      rfl
    rw [e]; rfl
  · have hn := Lib.bytesWorld_at_new w 5 x
    have hs : x.size ≤ (Lib.bytesCells w 5 x).size := by
      unfold Lib.bytesCells
      rw [Array.size_append, Array.size_map]
      show x.data.size ≤ _
      omega
    rw [Nat.zero_add]
    simp only [World.frozen?, hn]
    simp
    omega
set_option maxHeartbeats 1000000 in
theorem turn1_turns (base : Nat) (w : World) : Turns 27 #[] #[] turnB base w := by
  intro x W h12 hW
  clear hW
  have hl := lw_length x
  have hc1 := Lib.run_convert_string_bytes (P := Tryz.prog) W 9 49 5 x Tryz.underlying9 Tryz.underlying49 Tryz.underlying5
  have hH := holds_bytes W x
  have hrev := AnyE.slices_Reverse Tryz.lRev encB (fun _ => rfl) W.heap.size 0 (grownCap W x.size 0 5) (lw x) (Lib.bytesWorld W 5 x) hH (by omega)
  rw [hl] at hrev
  have hB := Lib.bytesWorld_below W 5 x
  have hback : ∀ n, (convert 49 9 (.slice (some ⟨W.heap.size, 0, none⟩) x.size (grownCap W x.size 0 5))).run Tryz.prog (putRow encB (Sort.ahead (Lib.bytesWorld W 5 x) n) W.heap.size 0 (lw x).reverse.toArray) = .ok (.string (turnB x)) (putRow encB (Sort.ahead (Lib.bytesWorld W 5 x) n) W.heap.size 0 (lw x).reverse.toArray) := fun n => by
    have h := run_convert_bytes_back (P := Tryz.prog) (putRow encB (Sort.ahead (Lib.bytesWorld W 5 x) n) W.heap.size 0 (lw x).reverse.toArray) 49 9 5 ⟨W.heap.size, 0, none⟩ (grownCap W x.size 0 5) (lw x).reverse Tryz.underlying49 Tryz.underlying5 Tryz.underlying9 (fun j hj => by
      have hc := cell?_putRow encB (Sort.ahead (Lib.bytesWorld W 5 x) n) W.heap.size 0 (lw x).toArray (lw x).reverse.toArray (holds_ahead _ _ _ _ _ _ hH) (by simp) j (by simpa using hj)
      have e : (⟨W.heap.size, 0, none⟩ : Addr).add j = ⟨W.heap.size, 0 + j, none⟩ := Lib.add_plain W.heap.size 0 j
      rw [e, hc, getElem!_pos _ j (by simpa using hj)]
      simp [encB])
    rw [List.length_reverse, hl] at h
    exact h
  have HR := Aside0.mk hrev
  have HB := Aside0.mk hB
  clear hrev hB hH hl
  show Calls Tryz.prog 27 #[.string x] W _
  go_enter Tryz.func27, Tryz.ntmps27
  go_wp2_with (go_at_call 28; refine HR.out.mono ?_; rintro e w2 ⟨rfl, n, rfl⟩; have hb2 := hback n)
  go_ret
  exact ⟨rfl, Lib.below_putRow HB.out (Nat.le_refl _)⟩
theorem turn1_enters : Enters 27 := enters_of Tryz.func27 (by kernel_rfl) rfl
def impl_TurnTrie.f (l0_0 : List IN) : Option (List IN × Bool) := some (mappedW turnB l0_0)
set_option maxHeartbeats 2000000 in
theorem impl_TurnTrie.calls (A0_0 : Option Addr) (c0_0 : Nat) (l0_0 : List IN) (r1 : List IN) (r2 : Bool) (w : World) (hr0_0 : Kd.C k62 w A0_0 l0_0.length l0_0) (hc0_0 : l0_0.length ≤ c0_0) (h : impl_TurnTrie.f l0_0 = some (r1, r2)) :
    Calls Tryz.prog 9 #[.agg #[.slice A0_0 l0_0.length c0_0]] w fun e w' => ∃ v0_ : Value, e = .returned (.tuple #[.agg #[v0_], .bool r2]) ∧ Kd.R k62 62 w' w.heap.size (fun _ => True) v0_ r1 ∧ Below w.heap.size w w' := by
  have h := Option.some.inj h
  have HB0 := Aside0.mk (((Below.refl w.heap.size w).alloc (Nat.le_refl _) (.cells #[.slice A0_0 l0_0.length c0_0] 28)).alloc (by simp) (.cells #[.slice none 0 0] 28))
  have HX := Aside0.mk (box_two w (.slice A0_0 l0_0.length c0_0) (.slice none 0 0) 28 28)
  have HG := Aside0.mk (mapped_gen 27 #[] #[] turnB turn1_enters l0_0 A0_0 c0_0 _ (Kd.C_below hr0_0 HB0.out) hc0_0 (turn1_turns _ _))
  rw [h] at HG
  clear hr0_0 hc0_0 h
  go_enter Tryz.func9, Tryz.ntmps9
  go_wp2_with (go_at_call 26; refine HG.out.mono ?_; rintro e w2 ⟨v2, rfl, hr, hb⟩; obtain ⟨A2, c2, rfl⟩ := Kd.R_slice hr; have HQ2 := Aside0.mk (show Below (w.heap.size + 1 + 1) _ w2 by simpa using hb); have hx := (HX.out w2 HQ2.out).2; have hxc := box_at hx; have hxf := box_frozen hx; have HXX := Aside0.mk hx; have HR2 := Aside0.mk (show Kd.R k62 62 w2 (w.heap.size + 1 + 1) (fun _ => True) (.slice A2 r1.length c2) r1 by simpa using hr); clear hr hb hx)
  have hfin := blk_put HXX.out 0 (.slice A2 r1.length c2) rfl
  refine bodyPost_ret (results_ct rfl _ _ (w.heap.size + 1) 28 #[.slice A2 r1.length c2] (0, 0) _ rfl hfin Tryz.underlying28 rfl (by kernel_rfl)) rfl ?_
  exact ⟨_, rfl, Kd.R_lower (Kd.R_mono (Kd.R_move (Kd.R_bound HR2.out) (fun g hg => Below.heap_setCell _ _ _ _ (by have := hg.2.1; simp; omega))) (fun _ hg => trivial)) (by omega), (HB0.out.trans (HQ2.out.mono (by omega))).setCell (by simp) _⟩
end Go.Proofs.YtefcbnlljpdjnaaGreatDoor.Q
namespace Go.Proofs.YtefcbnlljpdjnaaGreatDoor.Q
open Go.RowKit Go.Proofs.YtefcbnlljpdjnaaGreatDoorW.PrintWords Go.Proofs.YtefcbnlljpdjnaaGreatDoorW.PrintLast Go.Proofs.YtefcbnlljpdjnaaGreatDoorW.PrintMore
attribute [local go_sem] run_field_23 run_field_24 run_field_27 run_field_28 isSome_setCell max2_int min2_int max_two min_two max_three min_three max_four min_four   -- for this text's walks alone
set_option linter.unusedVariables false
set_option linter.unusedSimpArgs false
mutual
def laws_FnExactTurnTrie.j0 : Nat → Bool → Bool → Bool → List (S65) → List (S62) → List (S62) → List (S62) → Option (Bool)
  | 0, _, _, _, _, _, _, _ => none
  | k + 1, x5, x8, x40, x373000, x382000, x386000, x391000 => if x40 = true then (some false) else ((laws_toTrie.f k x373000).bind fun t392 => ((laws_eqTrie.f k x386000 t392).bind fun t395 => (if t395 = true then ((laws_markTrie.f k x386000 1).bind fun bt396 => (if bt396.1 < 0 then (laws_FnExactTurnTrie.j1 k x5 true x373000 x382000 x391000) else ((laws_eqTrie.f k x391000 x382000).bind fun t398 => (if t398 = true then (laws_FnExactTurnTrie.j1 k x5 (x8 != x5) x373000 x382000 x391000) else (laws_FnExactTurnTrie.j1 k x5 true x373000 x382000 x391000))))) else (some false))))
def laws_FnExactTurnTrie.j1 : Nat → Bool → Bool → List (S65) → List (S62) → List (S62) → Option (Bool)
  | 0, _, _, _, _, _ => none
  | k + 1, x5, x61, x373000, x382000, x391000 => if x61 = true then (some false) else ((laws_markTrie.f k x391000 1).bind fun bt399 => ((laws_heldTrie.f k bt399.2 1).bind fun t401 => (if t401 < 0 then (some false) else (if t401 = bt399.1 then ((laws_toTrie.f k x373000).bind fun t402 => ((impl_TurnTrie.f t402).bind fun bt405 => ((laws_eqTrie.f k bt405.1 x382000).bind fun t410 => (if t410 = true then (laws_FnExactTurnTrie.j2 k bt399.1 (bt405.2 != x5) bt399.2) else (laws_FnExactTurnTrie.j2 k bt399.1 true bt399.2))))) else (some false)))))
def laws_FnExactTurnTrie.j2 : Nat → Int → Bool → List (S62) → Option (Bool)
  | 0, _, _, _ => none
  | k + 1, x10, x87, x391000 => if x87 = true then (some false) else ((laws_heldTrie.f k x391000 1).bind fun t411 => (if t411 < 0 then (some false) else (if t411 = x10 then (some true) else (some false))))
end
def laws_FnExactTurnTrie.f (k : Nat) (l0_0 : List (S65)) : Option (Bool) := (laws_szTrie.f l0_0 1048576).bind fun t373 => (if t373 < 0 then (some true) else ((laws_toTrie.f k l0_0).bind fun t374 => ((spec_TurnTrie.f k t374).bind fun bt377 => ((laws_toTrie.f k l0_0).bind fun t382 => ((impl_TurnTrie.f t382).bind fun bt386 => ((laws_eqTrie.f k bt386.1 bt377.1).bind fun t391 => (if t391 = true then (laws_FnExactTurnTrie.j0 k bt377.2 bt386.2 (bt386.2 != bt377.2) l0_0 bt377.1 t382 bt386.1) else (laws_FnExactTurnTrie.j0 k bt377.2 bt386.2 true l0_0 bt377.1 t382 bt386.1))))))))
set_option maxHeartbeats 8000000 in
set_option maxRecDepth 100000 in
theorem laws_FnExactTurnTrie.calls (k : Nat) (A0_0 : Option Addr) (c0_0 : Nat) (l0_0 : List (S65)) (r : Bool) (w : World) (hr0_0 : Kd.C k65 w A0_0 l0_0.length l0_0) (hc0_0 : l0_0.length ≤ c0_0) (h : laws_FnExactTurnTrie.f k l0_0 = some true) :
    Calls Tryz.prog 3 #[.agg #[.slice A0_0 l0_0.length c0_0]] w fun e w' => e = .returned (.bool true) ∧ Below w.heap.size w w' := by
  have hu24 := Tryz.underlying24
  have hu28 := Tryz.underlying28
  have HR0_0 := Aside0.mk hr0_0
  have HC0_0 := Aside0.mk hc0_0
  clear hr0_0 hc0_0
  have HB := Aside0.mk (Below.refl w.heap.size w)
  have H : ((laws_szTrie.f l0_0 1048576).bind fun t373 => (if t373 < 0 then (some true) else ((laws_toTrie.f k l0_0).bind fun t374 => ((spec_TurnTrie.f k t374).bind fun bt377 => ((laws_toTrie.f k l0_0).bind fun t382 => ((impl_TurnTrie.f t382).bind fun bt386 => ((laws_eqTrie.f k bt386.1 bt377.1).bind fun t391 => (if t391 = true then (laws_FnExactTurnTrie.j0 k bt377.2 bt386.2 (bt386.2 != bt377.2) l0_0 bt377.1 t382 bt386.1) else (laws_FnExactTurnTrie.j0 k bt377.2 bt386.2 true l0_0 bt377.1 t382 bt386.1))))))))) = some true := h
  clear h
  replace H := Option.bind_eq_some_iff.mp H
  obtain ⟨t373, A20, H⟩ := H
  replace H : (if t373 < 0 then (some true) else ((laws_toTrie.f k l0_0).bind fun t374 => ((spec_TurnTrie.f k t374).bind fun bt377 => ((laws_toTrie.f k l0_0).bind fun t382 => ((impl_TurnTrie.f t382).bind fun bt386 => ((laws_eqTrie.f k bt386.1 bt377.1).bind fun t391 => (if t391 = true then (laws_FnExactTurnTrie.j0 k bt377.2 bt386.2 (bt386.2 != bt377.2) l0_0 bt377.1 t382 bt386.1) else (laws_FnExactTurnTrie.j0 k bt377.2 bt386.2 true l0_0 bt377.1 t382 bt386.1)))))))) = some true := H
  have A2 := Aside0.mk A20
  clear A20
  by_cases c3 : t373 < 0
  · rw [if_pos c3] at H
    have c3b0 : decide (t373 < 0) = true := decide_eq_true c3
    clear c3
    (first | (obtain rfl := Option.some.inj H) | (have hH_ := Option.some.inj H; try simp only [hH_]))
    go_enter Tryz.func3, Tryz.ntmps3
    go_wp2_with (first | ((with_reducible refine gate_dst (N := 1) rfl ?_); refine box_event ?hg (N := 1) ?hd (cs := #[.slice A0_0 l0_0.length c0_0]) (t := 24) ?hr ?_; (case hd => rfl); (case hg => rfl); (case hr => first | (go_simp; done) | (go_simp; rfl)); intro gb372 hg w4 hbox hb; have n0_ := Aside0.mk (below_step (by repeat (first | (with_reducible first | exact HB.out | apply below_alloc | apply pw_below_drewN | apply below_drew1) | exact HB.out)) hb); have n1_ := Aside0.mk (hbox); have n2_ := Aside0.mk ((by rw [hg]; exact (below_size (by repeat (first | (with_reducible first | exact HB.out | apply below_alloc | apply pw_below_drewN | apply below_drew1) | exact HB.out))) : w.heap.size ≤ gb372)); have n3_ := Aside0.mk ((by rw [hg]; exact (below_size (by repeat (first | (with_reducible first | exact HB.out | apply below_alloc | apply pw_below_drewN | apply below_drew1) | exact HB.out))) : w.heap.size ≤ gb372)); clear HB; have HB := n0_; have BK372 := n1_; have GW372 := n2_; have GE372 := n3_; clear n0_ n1_ n2_ n3_; clear hb hbox hg; have hcz5_0 : w4.cell? ⟨gb372, 0, none⟩ = some (.slice A0_0 l0_0.length c0_0) := (blk_cell BK372.out 0).trans rfl; have hfz5_0 := blk_frozen BK372.out 0) | ((with_reducible refine gate_callee (f := 6) rfl ?_); refine goesL_ (some 16) rfl rfl Tryz.func6 (by kernel_rfl) rfl #[.agg #[.slice A0_0 l0_0.length c0_0], .int .i64 1048576] rfl (by (try simp only [List.map_toArray, List.map_cons, List.map_nil]); first | done | rfl | (simp only [List.length_drop, List.length_take]; rfl)) ?_; (with_reducible refine (laws_szTrie.calls _ _ l0_0 1048576 t373 _ ?side1 ?side2 A2.out).mono ?_); (case side1 => repeat (first | exact (Kd.C_below HR0_0.out HB.out) | (with_reducible refine Kd.C_alloc ?_ _) | (with_reducible refine Kd.C_drewN ?_ _) | (with_reducible refine Kd.C_drew ?_))); (case side2 => exact HC0_0.out); rintro e w6 ⟨rfl, hb⟩; refine ⟨_, rfl, ?_⟩; have n0_ := Aside0.mk (blk_below (g := gb372) (o := .cells #[.slice A0_0 l0_0.length c0_0] 24 (0, 0)) (by (with_reducible repeat (first | refine blk_drewN ?_ _ | refine blk_drew ?_ | refine blk_alloc ?_ _)); exact BK372.out) hb); have n1_ := Aside0.mk (below_step (by repeat (first | (with_reducible first | exact HB.out | apply below_alloc | apply pw_below_drewN | apply below_drew1 | refine below_set ?_ GE372.out) | exact HB.out)) hb); clear BK372; clear HB; have BK372 := n0_; have HB := n1_; clear n0_ n1_; (try clear hb); (try clear hb2); (try clear hk); (try clear hi)))
    go_ret
    exact ⟨by first | rfl | (simp [errW_none, errW_some] <;> rfl) | (simp [*, errW_none, errW_some] <;> rfl), by repeat (first | (with_reducible first | exact HB.out | apply below_alloc | apply pw_below_drewN | apply below_drew1 | refine below_set ?_ GE372.out) | exact HB.out)⟩
  · rw [if_neg c3] at H
    have c3b0 : decide (t373 < 0) = false := decide_eq_false c3
    clear c3
    replace H := Option.bind_eq_some_iff.mp H
    obtain ⟨t374, A70, H⟩ := H
    replace H : ((spec_TurnTrie.f k t374).bind fun bt377 => ((laws_toTrie.f k l0_0).bind fun t382 => ((impl_TurnTrie.f t382).bind fun bt386 => ((laws_eqTrie.f k bt386.1 bt377.1).bind fun t391 => (if t391 = true then (laws_FnExactTurnTrie.j0 k bt377.2 bt386.2 (bt386.2 != bt377.2) l0_0 bt377.1 t382 bt386.1) else (laws_FnExactTurnTrie.j0 k bt377.2 bt386.2 true l0_0 bt377.1 t382 bt386.1)))))) = some true := H
    have A7 := Aside0.mk A70
    clear A70
    replace H := Option.bind_eq_some_iff.mp H
    obtain ⟨⟨t377, t380⟩, A80, H⟩ := H
    replace H : ((laws_toTrie.f k l0_0).bind fun t382 => ((impl_TurnTrie.f t382).bind fun bt386 => ((laws_eqTrie.f k bt386.1 t377).bind fun t391 => (if t391 = true then (laws_FnExactTurnTrie.j0 k t380 bt386.2 (bt386.2 != t380) l0_0 t377 t382 bt386.1) else (laws_FnExactTurnTrie.j0 k t380 bt386.2 true l0_0 t377 t382 bt386.1))))) = some true := H
    have A8 := Aside0.mk A80
    clear A80
    replace H := Option.bind_eq_some_iff.mp H
    obtain ⟨t382, A90, H⟩ := H
    replace H : ((impl_TurnTrie.f t382).bind fun bt386 => ((laws_eqTrie.f k bt386.1 t377).bind fun t391 => (if t391 = true then (laws_FnExactTurnTrie.j0 k t380 bt386.2 (bt386.2 != t380) l0_0 t377 t382 bt386.1) else (laws_FnExactTurnTrie.j0 k t380 bt386.2 true l0_0 t377 t382 bt386.1)))) = some true := H
    have A9 := Aside0.mk A90
    clear A90
    replace H := Option.bind_eq_some_iff.mp H
    obtain ⟨⟨t386, t389⟩, A100, H⟩ := H
    replace H : ((laws_eqTrie.f k t386 t377).bind fun t391 => (if t391 = true then (laws_FnExactTurnTrie.j0 k t380 t389 (t389 != t380) l0_0 t377 t382 t386) else (laws_FnExactTurnTrie.j0 k t380 t389 true l0_0 t377 t382 t386))) = some true := H
    have A10 := Aside0.mk A100
    clear A100
    have HC11 := Aside0.mk H
    clear H
    go_enter Tryz.func3, Tryz.ntmps3
    go_upto_region 8 with (first | ((with_reducible refine gate_dst (N := 1) rfl ?_); refine box_event ?hg (N := 1) ?hd (cs := #[.slice A0_0 l0_0.length c0_0]) (t := 24) ?hr ?_; (case hd => rfl); (case hg => rfl); (case hr => first | (go_simp; done) | (go_simp; rfl)); intro gb372 hg w12 hbox hb; have n0_ := Aside0.mk (below_step (by repeat (first | (with_reducible first | exact HB.out | apply below_alloc | apply pw_below_drewN | apply below_drew1) | exact HB.out)) hb); have n1_ := Aside0.mk (hbox); have n2_ := Aside0.mk ((by rw [hg]; exact (below_size (by repeat (first | (with_reducible first | exact HB.out | apply below_alloc | apply pw_below_drewN | apply below_drew1) | exact HB.out))) : w.heap.size ≤ gb372)); have n3_ := Aside0.mk ((by rw [hg]; exact (below_size (by repeat (first | (with_reducible first | exact HB.out | apply below_alloc | apply pw_below_drewN | apply below_drew1) | exact HB.out))) : w.heap.size ≤ gb372)); clear HB; have HB := n0_; have BK372 := n1_; have GW372 := n2_; have GE372 := n3_; clear n0_ n1_ n2_ n3_; clear hb hbox hg; have hcz13_0 : w12.cell? ⟨gb372, 0, none⟩ = some (.slice A0_0 l0_0.length c0_0) := (blk_cell BK372.out 0).trans rfl; have hfz13_0 := blk_frozen BK372.out 0) | ((with_reducible refine gate_callee (f := 6) rfl ?_); refine goesL_ (some 16) rfl rfl Tryz.func6 (by kernel_rfl) rfl #[.agg #[.slice A0_0 l0_0.length c0_0], .int .i64 1048576] rfl (by (try simp only [List.map_toArray, List.map_cons, List.map_nil]); first | done | rfl | (simp only [List.length_drop, List.length_take]; rfl)) ?_; (with_reducible refine (laws_szTrie.calls _ _ l0_0 1048576 t373 _ ?side1 ?side2 A2.out).mono ?_); (case side1 => repeat (first | exact (Kd.C_below HR0_0.out HB.out) | (with_reducible refine Kd.C_alloc ?_ _) | (with_reducible refine Kd.C_drewN ?_ _) | (with_reducible refine Kd.C_drew ?_))); (case side2 => exact HC0_0.out); rintro e w14 ⟨rfl, hb⟩; refine ⟨_, rfl, ?_⟩; have n0_ := Aside0.mk (blk_below (g := gb372) (o := .cells #[.slice A0_0 l0_0.length c0_0] 24 (0, 0)) (by (with_reducible repeat (first | refine blk_drewN ?_ _ | refine blk_drew ?_ | refine blk_alloc ?_ _)); exact BK372.out) hb); have n1_ := Aside0.mk (below_step (by repeat (first | (with_reducible first | exact HB.out | apply below_alloc | apply pw_below_drewN | apply below_drew1 | refine below_set ?_ GE372.out) | exact HB.out)) hb); clear BK372; clear HB; have BK372 := n0_; have HB := n1_; clear n0_ n1_; (try clear hb); (try clear hb2); (try clear hk); (try clear hi); have hcz15_0 : w14.cell? ⟨gb372, 0, none⟩ = some (.slice A0_0 l0_0.length c0_0) := (blk_cell BK372.out 0).trans rfl; have hfz15_0 := blk_frozen BK372.out 0) | ((with_reducible refine gate_callee (f := 8) rfl ?_); refine goesL_ (some 21) rfl rfl Tryz.func8 (by kernel_rfl) rfl #[.agg #[.slice A0_0 l0_0.length c0_0]] rfl (by (try simp only [List.map_toArray, List.map_cons, List.map_nil]); first | done | rfl | (simp only [List.length_drop, List.length_take]; rfl)) ?_; (with_reducible refine (laws_toTrie.calls k _ _ l0_0 t374 _ ?side1 ?side2 A7.out).mono ?_); (case side1 => repeat (first | exact (Kd.C_below HR0_0.out HB.out) | (with_reducible refine Kd.C_alloc ?_ _) | (with_reducible refine Kd.C_drewN ?_ _) | (with_reducible refine Kd.C_drew ?_))); (case side2 => exact HC0_0.out); rintro e w16 ⟨v375, rfl, ho0, hb⟩; refine ⟨_, rfl, ?_⟩; have n0_ := Aside0.mk (Kd.R_lower ho0 (below_size (by repeat (first | (with_reducible first | exact HB.out | apply below_alloc | apply pw_below_drewN | apply below_drew1 | refine below_set ?_ GE372.out) | exact HB.out)))); have n1_ := Aside0.mk (blk_below (g := gb372) (o := .cells #[.slice A0_0 l0_0.length c0_0] 24 (0, 0)) (by (with_reducible repeat (first | refine blk_drewN ?_ _ | refine blk_drew ?_ | refine blk_alloc ?_ _)); exact BK372.out) hb); have n2_ := Aside0.mk (below_step (by repeat (first | (with_reducible first | exact HB.out | apply below_alloc | apply pw_below_drewN | apply below_drew1 | refine below_set ?_ GE372.out) | exact HB.out)) hb); clear BK372; clear HB; have HO376 := n0_; have BK372 := n1_; have HB := n2_; clear n0_ n1_ n2_; (try clear hb); (try clear hb2); (try clear hk); (try clear hi); (try clear ho0); obtain ⟨Ao17, co17, eo17⟩ := Kd.R_slice HO376.out; subst eo17) | ((with_reducible refine gate_callee (f := 7) rfl ?_); refine goesL_ (some 22) rfl rfl Tryz.func7 (by kernel_rfl) rfl #[.agg #[.slice Ao17 t374.length co17]] rfl (by (try simp only [List.map_toArray, List.map_cons, List.map_nil]); first | done | rfl | (simp only [List.length_drop, List.length_take]; rfl)) ?_; (with_reducible refine (spec_TurnTrie.calls k _ _ t374 t377 t380 _ ?side1 ?side2 A8.out).mono ?_); (case side1 => repeat (first | exact (Kd.R_reads' HO376.out).2.2 | (with_reducible refine Kd.C_alloc ?_ _) | (with_reducible refine Kd.C_drewN ?_ _) | (with_reducible refine Kd.C_drew ?_))); (case side2 => exact (Kd.R_reads' HO376.out).2.1); rintro e w18 ⟨v378, rfl, ho0, hb⟩; refine ⟨_, rfl, ?_⟩; have n0_ := Aside0.mk (Kd.R_elder' (by (with_reducible repeat (first | apply Kd.R_alloc | apply Kd.R_drewN | apply Kd.R_drew)); exact HO376.out) (Kd.R_base ho0) hb); have n1_ := Aside0.mk (Kd.R_lower (Kd.R_new' ho0 (Kd.R_lt (by (with_reducible repeat (first | apply Kd.R_alloc | apply Kd.R_drewN | apply Kd.R_drew)); exact HO376.out))) (below_size (by repeat (first | (with_reducible first | exact HB.out | apply below_alloc | apply pw_below_drewN | apply below_drew1 | refine below_set ?_ GE372.out) | exact HB.out)))); have n2_ := Aside0.mk (blk_below (g := gb372) (o := .cells #[.slice A0_0 l0_0.length c0_0] 24 (0, 0)) (by (with_reducible repeat (first | refine blk_drewN ?_ _ | refine blk_drew ?_ | refine blk_alloc ?_ _)); exact BK372.out) hb); have n3_ := Aside0.mk (below_step (by repeat (first | (with_reducible first | exact HB.out | apply below_alloc | apply pw_below_drewN | apply below_drew1 | refine below_set ?_ GE372.out) | exact HB.out)) hb); clear HO376; clear BK372; clear HB; have HO376 := n0_; have HO379 := n1_; have BK372 := n2_; have HB := n3_; clear n0_ n1_ n2_ n3_; (try clear hb); (try clear hb2); (try clear hk); (try clear hi); (try clear ho0)) | ((with_reducible refine gate_dst (N := 4) rfl ?_); refine box_event ?hg (N := 4) ?hd (cs := #[.slice none 0 0]) (t := 28) ?hr ?_; (case hd => rfl); (case hg => rfl); (case hr => first | (go_simp; done) | (go_simp; rfl)); intro gb381 hg w19 hbox hb; have n0_ := Aside0.mk (Kd.R_below (by (with_reducible repeat (first | apply Kd.R_alloc | apply Kd.R_drewN | apply Kd.R_drew)); exact HO376.out) hb); have n1_ := Aside0.mk (Kd.R_below (by (with_reducible repeat (first | apply Kd.R_alloc | apply Kd.R_drewN | apply Kd.R_drew)); exact HO379.out) hb); have n2_ := Aside0.mk (blk_below (g := gb372) (o := .cells #[.slice A0_0 l0_0.length c0_0] 24 (0, 0)) (by (with_reducible repeat (first | refine blk_drewN ?_ _ | refine blk_drew ?_ | refine blk_alloc ?_ _)); exact BK372.out) hb); have n3_ := Aside0.mk (below_step (by repeat (first | (with_reducible first | exact HB.out | apply below_alloc | apply pw_below_drewN | apply below_drew1 | refine below_set ?_ GE372.out) | exact HB.out)) hb); have n4_ := Aside0.mk (hbox); have n5_ := Aside0.mk ((by rw [hg]; exact (below_size (by repeat (first | (with_reducible first | exact HB.out | apply below_alloc | apply pw_below_drewN | apply below_drew1 | refine below_set ?_ GE372.out) | exact HB.out))) : w.heap.size ≤ gb381)); have n6_ := Aside0.mk ((by rw [hg]; exact (below_size (by repeat (first | (with_reducible first | exact HB.out | apply below_alloc | apply pw_below_drewN | apply below_drew1 | refine below_set ?_ GE372.out) | exact HB.out))) : w.heap.size ≤ gb381)); have n7_ := Aside0.mk ((by rw [hg]; exact Nat.ne_of_lt (blk_lt (g := gb372) (o := .cells #[.slice A0_0 l0_0.length c0_0] 24 (0, 0)) (by (with_reducible repeat (first | refine blk_drewN ?_ _ | refine blk_drew ?_ | refine blk_alloc ?_ _)); exact BK372.out)) : gb372 ≠ gb381)); have n8_ := Aside0.mk ((by rw [hg]; exact Nat.ne_of_gt (blk_lt (g := gb372) (o := .cells #[.slice A0_0 l0_0.length c0_0] 24 (0, 0)) (by (with_reducible repeat (first | refine blk_drewN ?_ _ | refine blk_drew ?_ | refine blk_alloc ?_ _)); exact BK372.out)) : gb381 ≠ gb372)); clear HO376; clear HO379; clear BK372; clear HB; have HO376 := n0_; have HO379 := n1_; have BK372 := n2_; have HB := n3_; have BK381 := n4_; have GW381 := n5_; have GE381 := n6_; have NB372_381 := n7_; have NB381_372 := n8_; clear n0_ n1_ n2_ n3_ n4_ n5_ n6_ n7_ n8_; clear hb hbox hg; obtain ⟨Ao20, co20, eo20⟩ := Kd.R_slice HO379.out; subst eo20; have hnb21 := NB381_372.out; have hnc21 := NB372_381.out; have hcz22_0 : w19.cell? ⟨gb381, 0, none⟩ = some (.slice none 0 0) := (blk_cell BK381.out 0).trans rfl; have hfz22_0 := blk_frozen BK381.out 0; have hcz23_0 : w19.cell? ⟨gb372, 0, none⟩ = some (.slice A0_0 l0_0.length c0_0) := (blk_cell BK372.out 0).trans rfl; have hfz23_0 := blk_frozen BK372.out 0) | ((with_reducible refine gate_callee (f := 8) rfl ?_); refine goesL_ (some 26) rfl rfl Tryz.func8 (by kernel_rfl) rfl #[.agg #[.slice A0_0 l0_0.length c0_0]] rfl (by (try simp only [List.map_toArray, List.map_cons, List.map_nil]); first | done | rfl | (simp only [List.length_drop, List.length_take]; rfl)) ?_; (with_reducible refine (laws_toTrie.calls k _ _ l0_0 t382 _ ?side1 ?side2 A9.out).mono ?_); (case side1 => exact Kd.C_below HR0_0.out (by repeat (first | (with_reducible first | exact HB.out | apply below_alloc | apply pw_below_drewN | apply below_drew1 | refine below_set ?_ GE372.out | refine below_set ?_ GE381.out) | exact HB.out))); (case side2 => exact HC0_0.out); rintro e w24 ⟨v383, rfl, ho0, hb⟩; refine ⟨_, rfl, ?_⟩; have n0_ := Aside0.mk (Kd.R_elder' (by (with_reducible repeat (first | apply Kd.R_alloc | apply Kd.R_drewN | apply Kd.R_drew)); exact (Kd.R_mono (R_same_ (Kd.R_far (p := ⟨gb381, 0, none⟩) (Kd.R_types HO376.out BK381.out (by decide)) (fun _ hk => hk.2) (.slice Ao20 t377.length co20)) rfl) (fun _ h_ => h_.1))) (Kd.R_base ho0) hb); have n1_ := Aside0.mk (Kd.R_elder' (by (with_reducible repeat (first | apply Kd.R_alloc | apply Kd.R_drewN | apply Kd.R_drew)); exact (Kd.R_mono (R_same_ (Kd.R_far (p := ⟨gb381, 0, none⟩) (Kd.R_types HO379.out BK381.out (by decide)) (fun _ hk => hk.2) (.slice Ao20 t377.length co20)) rfl) (fun _ h_ => h_.1))) (Kd.R_base ho0) hb); have n2_ := Aside0.mk (Kd.R_lower (Kd.R_new' (Kd.R_new' ho0 (Kd.R_lt (by (with_reducible repeat (first | apply Kd.R_alloc | apply Kd.R_drewN | apply Kd.R_drew)); exact (Kd.R_mono (R_same_ (Kd.R_far (p := ⟨gb381, 0, none⟩) (Kd.R_types HO376.out BK381.out (by decide)) (fun _ hk => hk.2) (.slice Ao20 t377.length co20)) rfl) (fun _ h_ => h_.1))))) (Kd.R_lt (by (with_reducible repeat (first | apply Kd.R_alloc | apply Kd.R_drewN | apply Kd.R_drew)); exact (Kd.R_mono (R_same_ (Kd.R_far (p := ⟨gb381, 0, none⟩) (Kd.R_types HO379.out BK381.out (by decide)) (fun _ hk => hk.2) (.slice Ao20 t377.length co20)) rfl) (fun _ h_ => h_.1))))) (below_size (by repeat (first | (with_reducible first | exact HB.out | apply below_alloc | apply pw_below_drewN | apply below_drew1 | refine below_set ?_ GE372.out | refine below_set ?_ GE381.out) | exact HB.out)))); have n3_ := Aside0.mk (blk_below (g := gb372) (o := .cells #[.slice A0_0 l0_0.length c0_0] 24 (0, 0)) (by (with_reducible repeat (first | refine blk_drewN ?_ _ | refine blk_drew ?_ | refine blk_alloc ?_ _)); refine blk_far ?_ NB372_381.out _; (with_reducible repeat (first | refine blk_drewN ?_ _ | refine blk_drew ?_ | refine blk_alloc ?_ _)); exact BK372.out) hb); have n4_ := Aside0.mk (blk_below (g := gb381) (o := .cells #[.slice Ao20 t377.length co20] 28 (0, 0)) (by (with_reducible repeat (first | refine blk_drewN ?_ _ | refine blk_drew ?_ | refine blk_alloc ?_ _)); refine blk_put (cs := #[.slice none 0 0]) ?_ 0 _ rfl; (with_reducible repeat (first | refine blk_drewN ?_ _ | refine blk_drew ?_ | refine blk_alloc ?_ _)); exact BK381.out) hb); have n5_ := Aside0.mk (below_step (by repeat (first | (with_reducible first | exact HB.out | apply below_alloc | apply pw_below_drewN | apply below_drew1 | refine below_set ?_ GE372.out | refine below_set ?_ GE381.out) | exact HB.out)) hb); clear HO376; clear HO379; clear BK372; clear BK381; clear HB; have HO376 := n0_; have HO379 := n1_; have HO384 := n2_; have BK372 := n3_; have BK381 := n4_; have HB := n5_; clear n0_ n1_ n2_ n3_ n4_ n5_; (try clear hb); (try clear hb2); (try clear hk); (try clear hi); (try clear ho0)) | ((with_reducible refine gate_dst (N := 6) rfl ?_); refine box_event ?hg (N := 6) ?hd (cs := #[.slice none 0 0]) (t := 28) ?hr ?_; (case hd => rfl); (case hg => rfl); (case hr => first | (go_simp; done) | (go_simp; rfl)); intro gb385 hg w25 hbox hb; have n0_ := Aside0.mk (Kd.R_below (by (with_reducible repeat (first | apply Kd.R_alloc | apply Kd.R_drewN | apply Kd.R_drew)); exact HO376.out) hb); have n1_ := Aside0.mk (Kd.R_below (by (with_reducible repeat (first | apply Kd.R_alloc | apply Kd.R_drewN | apply Kd.R_drew)); exact HO379.out) hb); have n2_ := Aside0.mk (Kd.R_below (by (with_reducible repeat (first | apply Kd.R_alloc | apply Kd.R_drewN | apply Kd.R_drew)); exact HO384.out) hb); have n3_ := Aside0.mk (blk_below (g := gb372) (o := .cells #[.slice A0_0 l0_0.length c0_0] 24 (0, 0)) (by (with_reducible repeat (first | refine blk_drewN ?_ _ | refine blk_drew ?_ | refine blk_alloc ?_ _)); exact BK372.out) hb); have n4_ := Aside0.mk (blk_below (g := gb381) (o := .cells #[.slice Ao20 t377.length co20] 28 (0, 0)) (by (with_reducible repeat (first | refine blk_drewN ?_ _ | refine blk_drew ?_ | refine blk_alloc ?_ _)); exact BK381.out) hb); have n5_ := Aside0.mk (below_step (by repeat (first | (with_reducible first | exact HB.out | apply below_alloc | apply pw_below_drewN | apply below_drew1 | refine below_set ?_ GE372.out | refine below_set ?_ GE381.out) | exact HB.out)) hb); have n6_ := Aside0.mk (hbox); have n7_ := Aside0.mk ((by rw [hg]; exact (below_size (by repeat (first | (with_reducible first | exact HB.out | apply below_alloc | apply pw_below_drewN | apply below_drew1 | refine below_set ?_ GE372.out | refine below_set ?_ GE381.out) | exact HB.out))) : w.heap.size ≤ gb385)); have n8_ := Aside0.mk ((by rw [hg]; exact (below_size (by repeat (first | (with_reducible first | exact HB.out | apply below_alloc | apply pw_below_drewN | apply below_drew1 | refine below_set ?_ GE372.out | refine below_set ?_ GE381.out) | exact HB.out))) : w.heap.size ≤ gb385)); have n9_ := Aside0.mk ((by rw [hg]; exact Nat.ne_of_lt (blk_lt (g := gb372) (o := .cells #[.slice A0_0 l0_0.length c0_0] 24 (0, 0)) (by (with_reducible repeat (first | refine blk_drewN ?_ _ | refine blk_drew ?_ | refine blk_alloc ?_ _)); exact BK372.out)) : gb372 ≠ gb385)); have n10_ := Aside0.mk ((by rw [hg]; exact Nat.ne_of_gt (blk_lt (g := gb372) (o := .cells #[.slice A0_0 l0_0.length c0_0] 24 (0, 0)) (by (with_reducible repeat (first | refine blk_drewN ?_ _ | refine blk_drew ?_ | refine blk_alloc ?_ _)); exact BK372.out)) : gb385 ≠ gb372)); have n11_ := Aside0.mk ((by rw [hg]; exact Nat.ne_of_lt (blk_lt (g := gb381) (o := .cells #[.slice Ao20 t377.length co20] 28 (0, 0)) (by (with_reducible repeat (first | refine blk_drewN ?_ _ | refine blk_drew ?_ | refine blk_alloc ?_ _)); exact BK381.out)) : gb381 ≠ gb385)); have n12_ := Aside0.mk ((by rw [hg]; exact Nat.ne_of_gt (blk_lt (g := gb381) (o := .cells #[.slice Ao20 t377.length co20] 28 (0, 0)) (by (with_reducible repeat (first | refine blk_drewN ?_ _ | refine blk_drew ?_ | refine blk_alloc ?_ _)); exact BK381.out)) : gb385 ≠ gb381)); clear HO376; clear HO379; clear HO384; clear BK372; clear BK381; clear HB; have HO376 := n0_; have HO379 := n1_; have HO384 := n2_; have BK372 := n3_; have BK381 := n4_; have HB := n5_; have BK385 := n6_; have GW385 := n7_; have GE385 := n8_; have NB372_385 := n9_; have NB385_372 := n10_; have NB381_385 := n11_; have NB385_381 := n12_; clear n0_ n1_ n2_ n3_ n4_ n5_ n6_ n7_ n8_ n9_ n10_ n11_ n12_; clear hb hbox hg; obtain ⟨Ao26, co26, eo26⟩ := Kd.R_slice HO384.out; subst eo26; have hnb27 := NB385_372.out; have hnc27 := NB372_385.out; have hnb28 := NB385_381.out; have hnc28 := NB381_385.out; have hcz29_0 : w25.cell? ⟨gb385, 0, none⟩ = some (.slice none 0 0) := (blk_cell BK385.out 0).trans rfl; have hfz29_0 := blk_frozen BK385.out 0) | ((with_reducible refine gate_callee (f := 9) rfl ?_); refine goesL_ (some 29) rfl rfl Tryz.func9 (by kernel_rfl) rfl #[.agg #[.slice Ao26 t382.length co26]] rfl (by (try simp only [List.map_toArray, List.map_cons, List.map_nil]); first | done | rfl | (simp only [List.length_drop, List.length_take]; rfl)) ?_; (with_reducible refine (impl_TurnTrie.calls _ _ t382 t386 t389 _ ?side1 ?side2 A10.out).mono ?_); (case side1 => refine (Kd.R_reads' (e := 62) (base := w.heap.size) (ok := fun k_ => ((True ∧ some k_ ≠ (.slice Ao17 t374.length co17 : Value).ownBlock) ∧ some k_ ≠ (.slice Ao20 t377.length co20 : Value).ownBlock)) (n := t382.length) (c := co26) ?_).2.2; exact (by (with_reducible repeat (first | apply Kd.R_alloc | apply Kd.R_drewN | apply Kd.R_drew)); exact (Kd.R_mono (R_same_ (Kd.R_far (p := ⟨gb385, 0, none⟩) (Kd.R_types HO384.out BK385.out (by decide)) (fun _ hk => hk.2) (.slice Ao26 t382.length co26)) rfl) (fun _ h_ => h_.1)))); (case side2 => exact (Kd.R_reads' HO384.out).2.1); rintro e w30 ⟨v387, rfl, ho0, hb⟩; refine ⟨_, rfl, ?_⟩; have n0_ := Aside0.mk (Kd.R_elder' (by (with_reducible repeat (first | apply Kd.R_alloc | apply Kd.R_drewN | apply Kd.R_drew)); exact (Kd.R_mono (R_same_ (Kd.R_far (p := ⟨gb385, 0, none⟩) (Kd.R_types HO376.out BK385.out (by decide)) (fun _ hk => hk.2) (.slice Ao26 t382.length co26)) rfl) (fun _ h_ => h_.1))) (Kd.R_base ho0) hb); have n1_ := Aside0.mk (Kd.R_elder' (by (with_reducible repeat (first | apply Kd.R_alloc | apply Kd.R_drewN | apply Kd.R_drew)); exact (Kd.R_mono (R_same_ (Kd.R_far (p := ⟨gb385, 0, none⟩) (Kd.R_types HO379.out BK385.out (by decide)) (fun _ hk => hk.2) (.slice Ao26 t382.length co26)) rfl) (fun _ h_ => h_.1))) (Kd.R_base ho0) hb); have n2_ := Aside0.mk (Kd.R_elder' (by (with_reducible repeat (first | apply Kd.R_alloc | apply Kd.R_drewN | apply Kd.R_drew)); exact (Kd.R_mono (R_same_ (Kd.R_far (p := ⟨gb385, 0, none⟩) (Kd.R_types HO384.out BK385.out (by decide)) (fun _ hk => hk.2) (.slice Ao26 t382.length co26)) rfl) (fun _ h_ => h_.1))) (Kd.R_base ho0) hb); have n3_ := Aside0.mk (Kd.R_lower (Kd.R_new' (Kd.R_new' (Kd.R_new' ho0 (Kd.R_lt (by (with_reducible repeat (first | apply Kd.R_alloc | apply Kd.R_drewN | apply Kd.R_drew)); exact (Kd.R_mono (R_same_ (Kd.R_far (p := ⟨gb385, 0, none⟩) (Kd.R_types HO376.out BK385.out (by decide)) (fun _ hk => hk.2) (.slice Ao26 t382.length co26)) rfl) (fun _ h_ => h_.1))))) (Kd.R_lt (by (with_reducible repeat (first | apply Kd.R_alloc | apply Kd.R_drewN | apply Kd.R_drew)); exact (Kd.R_mono (R_same_ (Kd.R_far (p := ⟨gb385, 0, none⟩) (Kd.R_types HO379.out BK385.out (by decide)) (fun _ hk => hk.2) (.slice Ao26 t382.length co26)) rfl) (fun _ h_ => h_.1))))) (Kd.R_lt (by (with_reducible repeat (first | apply Kd.R_alloc | apply Kd.R_drewN | apply Kd.R_drew)); exact (Kd.R_mono (R_same_ (Kd.R_far (p := ⟨gb385, 0, none⟩) (Kd.R_types HO384.out BK385.out (by decide)) (fun _ hk => hk.2) (.slice Ao26 t382.length co26)) rfl) (fun _ h_ => h_.1))))) (below_size (by repeat (first | (with_reducible first | exact HB.out | apply below_alloc | apply pw_below_drewN | apply below_drew1 | refine below_set ?_ GE372.out | refine below_set ?_ GE381.out | refine below_set ?_ GE385.out) | exact HB.out)))); have n4_ := Aside0.mk (blk_below (g := gb372) (o := .cells #[.slice A0_0 l0_0.length c0_0] 24 (0, 0)) (by (with_reducible repeat (first | refine blk_drewN ?_ _ | refine blk_drew ?_ | refine blk_alloc ?_ _)); refine blk_far ?_ NB372_385.out _; (with_reducible repeat (first | refine blk_drewN ?_ _ | refine blk_drew ?_ | refine blk_alloc ?_ _)); exact BK372.out) hb); have n5_ := Aside0.mk (blk_below (g := gb381) (o := .cells #[.slice Ao20 t377.length co20] 28 (0, 0)) (by (with_reducible repeat (first | refine blk_drewN ?_ _ | refine blk_drew ?_ | refine blk_alloc ?_ _)); refine blk_far ?_ NB381_385.out _; (with_reducible repeat (first | refine blk_drewN ?_ _ | refine blk_drew ?_ | refine blk_alloc ?_ _)); exact BK381.out) hb); have n6_ := Aside0.mk (blk_below (g := gb385) (o := .cells #[.slice Ao26 t382.length co26] 28 (0, 0)) (by (with_reducible repeat (first | refine blk_drewN ?_ _ | refine blk_drew ?_ | refine blk_alloc ?_ _)); refine blk_put (cs := #[.slice none 0 0]) ?_ 0 _ rfl; (with_reducible repeat (first | refine blk_drewN ?_ _ | refine blk_drew ?_ | refine blk_alloc ?_ _)); exact BK385.out) hb); have n7_ := Aside0.mk (below_step (by repeat (first | (with_reducible first | exact HB.out | apply below_alloc | apply pw_below_drewN | apply below_drew1 | refine below_set ?_ GE372.out | refine below_set ?_ GE381.out | refine below_set ?_ GE385.out) | exact HB.out)) hb); clear HO376; clear HO379; clear HO384; clear BK372; clear BK381; clear BK385; clear HB; have HO376 := n0_; have HO379 := n1_; have HO384 := n2_; have HO388 := n3_; have BK372 := n4_; have BK381 := n5_; have BK385 := n6_; have HB := n7_; clear n0_ n1_ n2_ n3_ n4_ n5_ n6_ n7_; (try clear hb); (try clear hb2); (try clear hk); (try clear hi); (try clear ho0)) | ((with_reducible refine gate_dst (N := 7) rfl ?_); refine box_event ?hg (N := 7) ?hd (cs := #[.slice none 0 0]) (t := 28) ?hr ?_; (case hd => rfl); (case hg => rfl); (case hr => first | (go_simp; done) | (go_simp; rfl)); intro gb390 hg w31 hbox hb; have n0_ := Aside0.mk (Kd.R_below (by (with_reducible repeat (first | apply Kd.R_alloc | apply Kd.R_drewN | apply Kd.R_drew)); exact HO376.out) hb); have n1_ := Aside0.mk (Kd.R_below (by (with_reducible repeat (first | apply Kd.R_alloc | apply Kd.R_drewN | apply Kd.R_drew)); exact HO379.out) hb); have n2_ := Aside0.mk (Kd.R_below (by (with_reducible repeat (first | apply Kd.R_alloc | apply Kd.R_drewN | apply Kd.R_drew)); exact HO384.out) hb); have n3_ := Aside0.mk (Kd.R_below (by (with_reducible repeat (first | apply Kd.R_alloc | apply Kd.R_drewN | apply Kd.R_drew)); exact HO388.out) hb); have n4_ := Aside0.mk (blk_below (g := gb372) (o := .cells #[.slice A0_0 l0_0.length c0_0] 24 (0, 0)) (by (with_reducible repeat (first | refine blk_drewN ?_ _ | refine blk_drew ?_ | refine blk_alloc ?_ _)); exact BK372.out) hb); have n5_ := Aside0.mk (blk_below (g := gb381) (o := .cells #[.slice Ao20 t377.length co20] 28 (0, 0)) (by (with_reducible repeat (first | refine blk_drewN ?_ _ | refine blk_drew ?_ | refine blk_alloc ?_ _)); exact BK381.out) hb); have n6_ := Aside0.mk (blk_below (g := gb385) (o := .cells #[.slice Ao26 t382.length co26] 28 (0, 0)) (by (with_reducible repeat (first | refine blk_drewN ?_ _ | refine blk_drew ?_ | refine blk_alloc ?_ _)); exact BK385.out) hb); have n7_ := Aside0.mk (below_step (by repeat (first | (with_reducible first | exact HB.out | apply below_alloc | apply pw_below_drewN | apply below_drew1 | refine below_set ?_ GE372.out | refine below_set ?_ GE381.out | refine below_set ?_ GE385.out) | exact HB.out)) hb); have n8_ := Aside0.mk (hbox); have n9_ := Aside0.mk ((by rw [hg]; exact (below_size (by repeat (first | (with_reducible first | exact HB.out | apply below_alloc | apply pw_below_drewN | apply below_drew1 | refine below_set ?_ GE372.out | refine below_set ?_ GE381.out | refine below_set ?_ GE385.out) | exact HB.out))) : w.heap.size ≤ gb390)); have n10_ := Aside0.mk ((by rw [hg]; exact (below_size (by repeat (first | (with_reducible first | exact HB.out | apply below_alloc | apply pw_below_drewN | apply below_drew1 | refine below_set ?_ GE372.out | refine below_set ?_ GE381.out | refine below_set ?_ GE385.out) | exact HB.out))) : w.heap.size ≤ gb390)); have n11_ := Aside0.mk ((by rw [hg]; exact Nat.ne_of_lt (blk_lt (g := gb372) (o := .cells #[.slice A0_0 l0_0.length c0_0] 24 (0, 0)) (by (with_reducible repeat (first | refine blk_drewN ?_ _ | refine blk_drew ?_ | refine blk_alloc ?_ _)); exact BK372.out)) : gb372 ≠ gb390)); have n12_ := Aside0.mk ((by rw [hg]; exact Nat.ne_of_gt (blk_lt (g := gb372) (o := .cells #[.slice A0_0 l0_0.length c0_0] 24 (0, 0)) (by (with_reducible repeat (first | refine blk_drewN ?_ _ | refine blk_drew ?_ | refine blk_alloc ?_ _)); exact BK372.out)) : gb390 ≠ gb372)); have n13_ := Aside0.mk ((by rw [hg]; exact Nat.ne_of_lt (blk_lt (g := gb381) (o := .cells #[.slice Ao20 t377.length co20] 28 (0, 0)) (by (with_reducible repeat (first | refine blk_drewN ?_ _ | refine blk_drew ?_ | refine blk_alloc ?_ _)); exact BK381.out)) : gb381 ≠ gb390)); have n14_ := Aside0.mk ((by rw [hg]; exact Nat.ne_of_gt (blk_lt (g := gb381) (o := .cells #[.slice Ao20 t377.length co20] 28 (0, 0)) (by (with_reducible repeat (first | refine blk_drewN ?_ _ | refine blk_drew ?_ | refine blk_alloc ?_ _)); exact BK381.out)) : gb390 ≠ gb381)); have n15_ := Aside0.mk ((by rw [hg]; exact Nat.ne_of_lt (blk_lt (g := gb385) (o := .cells #[.slice Ao26 t382.length co26] 28 (0, 0)) (by (with_reducible repeat (first | refine blk_drewN ?_ _ | refine blk_drew ?_ | refine blk_alloc ?_ _)); exact BK385.out)) : gb385 ≠ gb390)); have n16_ := Aside0.mk ((by rw [hg]; exact Nat.ne_of_gt (blk_lt (g := gb385) (o := .cells #[.slice Ao26 t382.length co26] 28 (0, 0)) (by (with_reducible repeat (first | refine blk_drewN ?_ _ | refine blk_drew ?_ | refine blk_alloc ?_ _)); exact BK385.out)) : gb390 ≠ gb385)); clear HO376; clear HO379; clear HO384; clear HO388; clear BK372; clear BK381; clear BK385; clear HB; have HO376 := n0_; have HO379 := n1_; have HO384 := n2_; have HO388 := n3_; have BK372 := n4_; have BK381 := n5_; have BK385 := n6_; have HB := n7_; have BK390 := n8_; have GW390 := n9_; have GE390 := n10_; have NB372_390 := n11_; have NB390_372 := n12_; have NB381_390 := n13_; have NB390_381 := n14_; have NB385_390 := n15_; have NB390_385 := n16_; clear n0_ n1_ n2_ n3_ n4_ n5_ n6_ n7_ n8_ n9_ n10_ n11_ n12_ n13_ n14_ n15_ n16_; clear hb hbox hg; obtain ⟨Ao32, co32, eo32⟩ := Kd.R_slice HO388.out; subst eo32; have hnb33 := NB390_372.out; have hnc33 := NB372_390.out; have hnb34 := NB390_381.out; have hnc34 := NB381_390.out; have hnb35 := NB390_385.out; have hnc35 := NB385_390.out; have hcz36_0 : w31.cell? ⟨gb390, 0, none⟩ = some (.slice none 0 0) := (blk_cell BK390.out 0).trans rfl; have hfz36_0 := blk_frozen BK390.out 0))
    (try simp only [Act.put, List.setIfInBounds_toArray, List.set_cons_zero, List.set_cons_succ])
    go_cut [40] (fun v40 wc => ∃ (kq : Nat) (x40_10 : Bool), v40 = .bool x40_10 ∧ Aside0 (laws_FnExactTurnTrie.j0 kq t380 t389 x40_10 l0_0 t377 t382 t386 = some true) ∧ Aside0 (kq ≤ k) ∧ Aside0 (Kd.R k62 62 wc w.heap.size (fun k_ => some k_ ≠ ((.slice Ao26 t382.length co26) : Value).ownBlock ∧ some k_ ≠ ((.slice Ao32 t386.length co32) : Value).ownBlock) (.slice Ao20 t377.length co20) t377) ∧ Aside0 (Kd.R k62 62 wc w.heap.size (fun k_ => some k_ ≠ ((.slice Ao20 t377.length co20) : Value).ownBlock ∧ some k_ ≠ ((.slice Ao32 t386.length co32) : Value).ownBlock) (.slice Ao26 t382.length co26) t382) ∧ Aside0 (Kd.R k62 62 wc w.heap.size (fun k_ => some k_ ≠ ((.slice Ao20 t377.length co20) : Value).ownBlock ∧ some k_ ≠ ((.slice Ao26 t382.length co26) : Value).ownBlock) (.slice Ao32 t386.length co32) t386) ∧ Aside0 (wc.heap[gb372]? = some (.cells #[(.slice A0_0 l0_0.length c0_0)] 24 (0, 0))) ∧ Aside0 (wc.heap[gb381]? = some (.cells #[(.slice Ao20 t377.length co20)] 28 (0, 0))) ∧ Aside0 (wc.heap[gb385]? = some (.cells #[(.slice Ao26 t382.length co26)] 28 (0, 0))) ∧ Aside0 (wc.heap[gb390]? = some (.cells #[(.slice Ao32 t386.length co32)] 28 (0, 0))) ∧ Aside0 (Below w.heap.size w wc))
    case first =>
      have H := HC11.out
      clear HC11
      replace H := Option.bind_eq_some_iff.mp H
      obtain ⟨t391, A370, H⟩ := H
      replace H : (if t391 = true then (laws_FnExactTurnTrie.j0 k t380 t389 (t389 != t380) l0_0 t377 t382 t386) else (laws_FnExactTurnTrie.j0 k t380 t389 true l0_0 t377 t382 t386)) = some true := H
      have A37 := Aside0.mk A370
      clear A370
      by_cases c38 : t391 = true
      · subst c38
        have H1 : (laws_FnExactTurnTrie.j0 k t380 t389 (t389 != t380) l0_0 t377 t382 t386) = some true := by rw [if_pos rfl] at H; exact H
        clear H
        have H := H1
        clear H1
        have H' := Aside0.mk H
        clear H
        have hnb39 := NB390_372.out
        have hnc39 := NB372_390.out
        have hnb40 := NB390_381.out
        have hnc40 := NB381_390.out
        have hnb41 := NB390_385.out
        have hnc41 := NB385_390.out
        have hcz42_0 : w31.cell? ⟨gb390, 0, none⟩ = some (.slice none 0 0) := (blk_cell BK390.out 0).trans rfl
        have hfz42_0 := blk_frozen BK390.out 0
        have hnb43 := NB381_372.out
        have hnc43 := NB372_381.out
        have hnb44 := NB381_385.out
        have hnc44 := NB385_381.out
        have hcz45_0 : w31.cell? ⟨gb381, 0, none⟩ = some (.slice Ao20 t377.length co20) := (blk_cell BK381.out 0).trans rfl
        have hfz45_0 := blk_frozen BK381.out 0
        go_wp2_with (first | ((with_reducible refine gate_callee (f := 10) rfl ?_); refine goesL_ (some 34) rfl rfl Tryz.func10 (by kernel_rfl) rfl #[.agg #[.slice Ao32 t386.length co32], .agg #[.slice Ao20 t377.length co20]] rfl (by (try simp only [List.map_toArray, List.map_cons, List.map_nil]); first | done | rfl | (simp only [List.length_drop, List.length_take]; rfl)) ?_; (with_reducible refine (laws_eqTrie.calls k _ _ t386 _ _ t377 true _ ?side1 ?side2 ?side3 ?side4 A37.out).mono ?_); (case side1 => refine (Kd.R_reads' (e := 62) (base := w.heap.size) (ok := fun k_ => (((True ∧ some k_ ≠ (.slice Ao17 t374.length co17 : Value).ownBlock) ∧ some k_ ≠ (.slice Ao20 t377.length co20 : Value).ownBlock) ∧ some k_ ≠ (.slice Ao26 t382.length co26 : Value).ownBlock)) (n := t386.length) (c := co32) ?_).2.2; exact (by (with_reducible repeat (first | apply Kd.R_alloc | apply Kd.R_drewN | apply Kd.R_drew)); exact (Kd.R_mono (R_same_ (Kd.R_far (p := ⟨gb390, 0, none⟩) (Kd.R_types HO388.out BK390.out (by decide)) (fun _ hk => hk.2) (.slice Ao32 t386.length co32)) rfl) (fun _ h_ => h_.1)))); (case side2 => exact (Kd.R_reads' HO388.out).2.1); (case side3 => refine (Kd.R_reads' (e := 62) (base := w.heap.size) (ok := fun k_ => (((True ∧ some k_ ≠ (.slice Ao17 t374.length co17 : Value).ownBlock) ∧ some k_ ≠ (.slice Ao26 t382.length co26 : Value).ownBlock) ∧ some k_ ≠ (.slice Ao32 t386.length co32 : Value).ownBlock)) (n := t377.length) (c := co20) ?_).2.2; exact (by (with_reducible repeat (first | apply Kd.R_alloc | apply Kd.R_drewN | apply Kd.R_drew)); exact (Kd.R_mono (R_same_ (Kd.R_far (p := ⟨gb390, 0, none⟩) (Kd.R_types HO379.out BK390.out (by decide)) (fun _ hk => hk.2) (.slice Ao32 t386.length co32)) rfl) (fun _ h_ => h_.1)))); (case side4 => exact (Kd.R_reads' HO379.out).2.1); rintro e w46 ⟨rfl, hb⟩; refine ⟨_, rfl, ?_⟩; have n0_ := Aside0.mk (Kd.R_below (by (with_reducible repeat (first | apply Kd.R_alloc | apply Kd.R_drewN | apply Kd.R_drew)); exact (Kd.R_mono (R_same_ (Kd.R_far (p := ⟨gb390, 0, none⟩) (Kd.R_types HO376.out BK390.out (by decide)) (fun _ hk => hk.2) (.slice Ao32 t386.length co32)) rfl) (fun _ h_ => h_.1))) hb); have n1_ := Aside0.mk (Kd.R_below (by (with_reducible repeat (first | apply Kd.R_alloc | apply Kd.R_drewN | apply Kd.R_drew)); exact (Kd.R_mono (R_same_ (Kd.R_far (p := ⟨gb390, 0, none⟩) (Kd.R_types HO379.out BK390.out (by decide)) (fun _ hk => hk.2) (.slice Ao32 t386.length co32)) rfl) (fun _ h_ => h_.1))) hb); have n2_ := Aside0.mk (Kd.R_below (by (with_reducible repeat (first | apply Kd.R_alloc | apply Kd.R_drewN | apply Kd.R_drew)); exact (Kd.R_mono (R_same_ (Kd.R_far (p := ⟨gb390, 0, none⟩) (Kd.R_types HO384.out BK390.out (by decide)) (fun _ hk => hk.2) (.slice Ao32 t386.length co32)) rfl) (fun _ h_ => h_.1))) hb); have n3_ := Aside0.mk (Kd.R_below (by (with_reducible repeat (first | apply Kd.R_alloc | apply Kd.R_drewN | apply Kd.R_drew)); exact (Kd.R_mono (R_same_ (Kd.R_far (p := ⟨gb390, 0, none⟩) (Kd.R_types HO388.out BK390.out (by decide)) (fun _ hk => hk.2) (.slice Ao32 t386.length co32)) rfl) (fun _ h_ => h_.1))) hb); have n4_ := Aside0.mk (blk_below (g := gb372) (o := .cells #[.slice A0_0 l0_0.length c0_0] 24 (0, 0)) (by (with_reducible repeat (first | refine blk_drewN ?_ _ | refine blk_drew ?_ | refine blk_alloc ?_ _)); refine blk_far ?_ NB372_390.out _; (with_reducible repeat (first | refine blk_drewN ?_ _ | refine blk_drew ?_ | refine blk_alloc ?_ _)); exact BK372.out) hb); have n5_ := Aside0.mk (blk_below (g := gb381) (o := .cells #[.slice Ao20 t377.length co20] 28 (0, 0)) (by (with_reducible repeat (first | refine blk_drewN ?_ _ | refine blk_drew ?_ | refine blk_alloc ?_ _)); refine blk_far ?_ NB381_390.out _; (with_reducible repeat (first | refine blk_drewN ?_ _ | refine blk_drew ?_ | refine blk_alloc ?_ _)); exact BK381.out) hb); have n6_ := Aside0.mk (blk_below (g := gb385) (o := .cells #[.slice Ao26 t382.length co26] 28 (0, 0)) (by (with_reducible repeat (first | refine blk_drewN ?_ _ | refine blk_drew ?_ | refine blk_alloc ?_ _)); refine blk_far ?_ NB385_390.out _; (with_reducible repeat (first | refine blk_drewN ?_ _ | refine blk_drew ?_ | refine blk_alloc ?_ _)); exact BK385.out) hb); have n7_ := Aside0.mk (blk_below (g := gb390) (o := .cells #[.slice Ao32 t386.length co32] 28 (0, 0)) (by (with_reducible repeat (first | refine blk_drewN ?_ _ | refine blk_drew ?_ | refine blk_alloc ?_ _)); refine blk_put (cs := #[.slice none 0 0]) ?_ 0 _ rfl; (with_reducible repeat (first | refine blk_drewN ?_ _ | refine blk_drew ?_ | refine blk_alloc ?_ _)); exact BK390.out) hb); have n8_ := Aside0.mk (below_step (by repeat (first | (with_reducible first | exact HB.out | apply below_alloc | apply pw_below_drewN | apply below_drew1 | refine below_set ?_ GE372.out | refine below_set ?_ GE381.out | refine below_set ?_ GE385.out | refine below_set ?_ GE390.out) | exact HB.out)) hb); clear HO376; clear HO379; clear HO384; clear HO388; clear BK372; clear BK381; clear BK385; clear BK390; clear HB; have HO376 := n0_; have HO379 := n1_; have HO384 := n2_; have HO388 := n3_; have BK372 := n4_; have BK381 := n5_; have BK385 := n6_; have BK390 := n7_; have HB := n8_; clear n0_ n1_ n2_ n3_ n4_ n5_ n6_ n7_ n8_; (try clear hb); (try clear hb2); (try clear hk); (try clear hi)))
        go_meet
        case rel => exact ⟨_, ((t389 != t380)), (by first | rfl | (simp; done) | (simp [*]; done)), H', ⟨by first | omega | exact Nat.le_refl _⟩, ⟨by (with_reducible repeat (first | apply Kd.R_alloc | apply Kd.R_drewN | apply Kd.R_drew)); exact Kd.R_mono HO379.out (fun _ hk => ⟨hk.1.2, hk.2⟩)⟩, ⟨by (with_reducible repeat (first | apply Kd.R_alloc | apply Kd.R_drewN | apply Kd.R_drew)); exact Kd.R_mono HO384.out (fun _ hk => ⟨hk.1.2, hk.2⟩)⟩, ⟨by (with_reducible repeat (first | apply Kd.R_alloc | apply Kd.R_drewN | apply Kd.R_drew)); exact Kd.R_mono HO388.out (fun _ hk => ⟨hk.1.2, hk.2⟩)⟩, ⟨by (with_reducible repeat (first | refine blk_drewN ?_ _ | refine blk_drew ?_ | refine blk_alloc ?_ _)); exact BK372.out⟩, ⟨by (with_reducible repeat (first | refine blk_drewN ?_ _ | refine blk_drew ?_ | refine blk_alloc ?_ _)); exact BK381.out⟩, ⟨by (with_reducible repeat (first | refine blk_drewN ?_ _ | refine blk_drew ?_ | refine blk_alloc ?_ _)); exact BK385.out⟩, ⟨by (with_reducible repeat (first | refine blk_drewN ?_ _ | refine blk_drew ?_ | refine blk_alloc ?_ _)); exact BK390.out⟩, ⟨by repeat (first | (with_reducible first | exact HB.out | apply below_alloc | apply pw_below_drewN | apply below_drew1 | refine below_set ?_ GE372.out | refine below_set ?_ GE381.out | refine below_set ?_ GE385.out | refine below_set ?_ GE390.out) | exact HB.out)⟩⟩
      · replace c38 := Bool.eq_false_iff.mpr c38
        subst c38
        have H1 : (laws_FnExactTurnTrie.j0 k t380 t389 true l0_0 t377 t382 t386) = some true := by rw [if_neg (show ¬ (false = true) by decide)] at H; exact H
        exact absurd H1 (by cases k <;> simp [laws_FnExactTurnTrie.j0])
    case rest =>
      clear HC11
      try clear c1
      try clear c2
      try clear p2
      try clear c3
      try clear c3b0
      try clear c4
      try clear c5
      try clear c6
      try clear c7
      try clear c8
      try clear c9
      try clear c10
      try clear c21
      try clear c27
      try clear c28
      try clear c33
      try clear c34
      try clear c35
      try clear c38
      try clear c39
      try clear c40
      try clear c41
      try clear c43
      try clear c44
      try clear c47
      try clear c48
      try clear c49
      try clear c51
      try clear c52
      try clear hcz13_0
      try clear hcz15_0
      try clear hcz22_0
      try clear hcz23_0
      try clear hcz29_0
      try clear hcz36_0
      try clear hcz42_0
      try clear hcz45_0
      try clear hcz50_0
      try clear hcz53_0
      try clear hcz5_0
      try clear hfz13_0
      try clear hfz15_0
      try clear hfz22_0
      try clear hfz23_0
      try clear hfz29_0
      try clear hfz36_0
      try clear hfz42_0
      try clear hfz45_0
      try clear hfz50_0
      try clear hfz53_0
      try clear hfz5_0
      obtain ⟨kq, x40_10, rfl, HA, HJ10, HO_382000, HO_386000, HO_391000, BK372, BK381, BK385, BK390, HB⟩ := hcut
      cases kq with
      | zero => exact absurd HA.out (by simp [laws_FnExactTurnTrie.j0])
      | succ kj10 =>
        have H := HA.out
        clear HA
        simp only [laws_FnExactTurnTrie.j0] at H
        by_cases c55 : x40_10 = true
        · subst c55
          have H1 : (some false) = some true := by rw [if_pos rfl] at H; exact H
          exact absurd H1 (by simp)
        · replace c55 := Bool.eq_false_iff.mpr c55
          subst c55
          have H1 : ((laws_toTrie.f kj10 l0_0).bind fun t392 => ((laws_eqTrie.f kj10 t382 t392).bind fun t395 => (if t395 = true then ((laws_markTrie.f kj10 t382 1).bind fun bt396 => (if bt396.1 < 0 then (laws_FnExactTurnTrie.j1 kj10 t380 true l0_0 t377 t386) else ((laws_eqTrie.f kj10 t386 t377).bind fun t398 => (if t398 = true then (laws_FnExactTurnTrie.j1 kj10 t380 (t389 != t380) l0_0 t377 t386) else (laws_FnExactTurnTrie.j1 kj10 t380 true l0_0 t377 t386))))) else (some false)))) = some true := by rw [if_neg (show ¬ (false = true) by decide)] at H; exact H
          clear H
          have H := H1
          clear H1
          replace H := Option.bind_eq_some_iff.mp H
          obtain ⟨t392, A560, H⟩ := H
          replace H : ((laws_eqTrie.f kj10 t382 t392).bind fun t395 => (if t395 = true then ((laws_markTrie.f kj10 t382 1).bind fun bt396 => (if bt396.1 < 0 then (laws_FnExactTurnTrie.j1 kj10 t380 true l0_0 t377 t386) else ((laws_eqTrie.f kj10 t386 t377).bind fun t398 => (if t398 = true then (laws_FnExactTurnTrie.j1 kj10 t380 (t389 != t380) l0_0 t377 t386) else (laws_FnExactTurnTrie.j1 kj10 t380 true l0_0 t377 t386))))) else (some false))) = some true := H
          have A56 := Aside0.mk A560
          clear A560
          replace H := Option.bind_eq_some_iff.mp H
          obtain ⟨t395, A570, H⟩ := H
          replace H : (if t395 = true then ((laws_markTrie.f kj10 t382 1).bind fun bt396 => (if bt396.1 < 0 then (laws_FnExactTurnTrie.j1 kj10 t380 true l0_0 t377 t386) else ((laws_eqTrie.f kj10 t386 t377).bind fun t398 => (if t398 = true then (laws_FnExactTurnTrie.j1 kj10 t380 (t389 != t380) l0_0 t377 t386) else (laws_FnExactTurnTrie.j1 kj10 t380 true l0_0 t377 t386))))) else (some false)) = some true := H
          have A57 := Aside0.mk A570
          clear A570
          by_cases c58 : t395 = true
          · subst c58
            have H1 : ((laws_markTrie.f kj10 t382 1).bind fun bt396 => (if bt396.1 < 0 then (laws_FnExactTurnTrie.j1 kj10 t380 true l0_0 t377 t386) else ((laws_eqTrie.f kj10 t386 t377).bind fun t398 => (if t398 = true then (laws_FnExactTurnTrie.j1 kj10 t380 (t389 != t380) l0_0 t377 t386) else (laws_FnExactTurnTrie.j1 kj10 t380 true l0_0 t377 t386))))) = some true := by rw [if_pos rfl] at H; exact H
            clear H
            have H := H1
            clear H1
            replace H := Option.bind_eq_some_iff.mp H
            obtain ⟨⟨t396, t397⟩, A590, H⟩ := H
            replace H : (if t396 < 0 then (laws_FnExactTurnTrie.j1 kj10 t380 true l0_0 t377 t386) else ((laws_eqTrie.f kj10 t386 t377).bind fun t398 => (if t398 = true then (laws_FnExactTurnTrie.j1 kj10 t380 (t389 != t380) l0_0 t377 t386) else (laws_FnExactTurnTrie.j1 kj10 t380 true l0_0 t377 t386)))) = some true := H
            have A59 := Aside0.mk A590
            clear A590
            have HC60 := Aside0.mk H
            clear H
            try go_wp2
            have n0_ := Aside0.mk (Kd.R_drew HO_382000.out)
            have n1_ := Aside0.mk (Kd.R_drew HO_386000.out)
            have n2_ := Aside0.mk (Kd.R_drew HO_391000.out)
            have n3_ := Aside0.mk (blk_drew BK372.out)
            have n4_ := Aside0.mk (blk_drew BK381.out)
            have n5_ := Aside0.mk (blk_drew BK385.out)
            have n6_ := Aside0.mk (blk_drew BK390.out)
            have n7_ := Aside0.mk (below_drew1 HB.out)
            clear HO_382000
            clear HO_386000
            clear HO_391000
            clear BK372
            clear BK381
            clear BK385
            clear BK390
            clear HB
            have HO_382000 := n0_
            have HO_386000 := n1_
            have HO_391000 := n2_
            have BK372 := n3_
            have BK381 := n4_
            have BK385 := n5_
            have BK390 := n6_
            have HB := n7_
            clear n0_ n1_ n2_ n3_ n4_ n5_ n6_ n7_
            refine start_ (n := 5) (S := fun w' => w'.cell? ⟨gb385, 0, none⟩ = some (.slice Ao26 t382.length co26) ∧ w'.cell? ⟨gb372, 0, none⟩ = some (.slice A0_0 l0_0.length c0_0)) (ds := []) #[false, false, false, false, false] (by kernel_rfl) rfl rfl ⟨(blk_cell BK385.out 0).trans rfl, (blk_cell BK372.out 0).trans rfl⟩ (fun hHeld => ?_)
            generalize wc.drew = w61 at HO_382000 HO_386000 HO_391000 BK372 BK381 BK385 BK390 HB hHeld ⊢
            refine take_ (i := 0) (N := some 41) (v := ?_) (a' := ?_) #[true, false, false, false, false] rfl rfl (by kernel_rfl) (fun _ _ _ h => h) (Or.inl ⟨by rfl, ?_⟩) hHeld ?_ ?_
            rotate_left
            · rintro w' ⟨s0, s1⟩
              go_simp
              with_reducible rfl
            rotate_left
            · simp only [Act.put, List.setIfInBounds_toArray, List.set_cons_zero, List.set_cons_succ, i64_w, i32_w]
              rfl
            refine take_ (i := 1) (N := some 42) (v := ?_) (a' := ?_) #[true, true, false, false, false] rfl rfl (by kernel_rfl) (fun _ _ _ h => h) (Or.inl ⟨by rfl, ?_⟩) hHeld ?_ ?_
            rotate_left
            · rintro w' ⟨s0, s1⟩
              go_simp
              with_reducible rfl
            rotate_left
            · simp only [Act.put, List.setIfInBounds_toArray, List.set_cons_zero, List.set_cons_succ, i64_w, i32_w]
              rfl
            refine one_ (i := 2) (N := some 43) #[true, true, true, false, false] rfl rfl (by kernel_rfl) (by decide) (fun K hK => ?_)
            refine goes_ Tryz.func8 (by kernel_rfl) rfl #[.agg #[.slice A0_0 l0_0.length c0_0]] (by rfl) rfl rfl (by (try simp only [List.map_toArray, List.map_cons, List.map_nil]); first | done | rfl | (simp only [List.length_drop, List.length_take]; rfl)) ?_
            with_reducible refine (laws_toTrie.calls kj10 _ _ l0_0 t392 _ ?side1 ?side2 A56.out).mono ?_
            (case side1 => repeat (first | exact (Kd.C_below HR0_0.out HB.out) | (with_reducible refine Kd.C_alloc ?_ _) | (with_reducible refine Kd.C_drewN ?_ _) | (with_reducible refine Kd.C_drew ?_)))
            (case side2 => exact HC0_0.out)
            rintro e w62 ⟨v393, rfl, ho0, hb⟩
            refine ⟨_, rfl, ?_⟩
            have n0_ := Aside0.mk (Kd.R_elder' (by (with_reducible repeat (first | apply Kd.R_alloc | apply Kd.R_drewN | apply Kd.R_drew)); exact HO_382000.out) (Kd.R_base ho0) hb)
            have n1_ := Aside0.mk (Kd.R_elder' (by (with_reducible repeat (first | apply Kd.R_alloc | apply Kd.R_drewN | apply Kd.R_drew)); exact HO_386000.out) (Kd.R_base ho0) hb)
            have n2_ := Aside0.mk (Kd.R_elder' (by (with_reducible repeat (first | apply Kd.R_alloc | apply Kd.R_drewN | apply Kd.R_drew)); exact HO_391000.out) (Kd.R_base ho0) hb)
            have n3_ := Aside0.mk (Kd.R_lower (Kd.R_new' (Kd.R_new' (Kd.R_new' ho0 (Kd.R_lt (by (with_reducible repeat (first | apply Kd.R_alloc | apply Kd.R_drewN | apply Kd.R_drew)); exact HO_382000.out))) (Kd.R_lt (by (with_reducible repeat (first | apply Kd.R_alloc | apply Kd.R_drewN | apply Kd.R_drew)); exact HO_386000.out))) (Kd.R_lt (by (with_reducible repeat (first | apply Kd.R_alloc | apply Kd.R_drewN | apply Kd.R_drew)); exact HO_391000.out))) (below_size (by repeat (first | (with_reducible first | exact HB.out | apply below_alloc | apply pw_below_drewN | apply below_drew1 | refine below_set ?_ GE372.out | refine below_set ?_ GE381.out | refine below_set ?_ GE385.out | refine below_set ?_ GE390.out) | exact HB.out))))
            have n4_ := Aside0.mk (blk_below (g := gb372) (o := .cells #[.slice A0_0 l0_0.length c0_0] 24 (0, 0)) (by (with_reducible repeat (first | refine blk_drewN ?_ _ | refine blk_drew ?_ | refine blk_alloc ?_ _)); exact BK372.out) hb)
            have n5_ := Aside0.mk (blk_below (g := gb381) (o := .cells #[.slice Ao20 t377.length co20] 28 (0, 0)) (by (with_reducible repeat (first | refine blk_drewN ?_ _ | refine blk_drew ?_ | refine blk_alloc ?_ _)); exact BK381.out) hb)
            have n6_ := Aside0.mk (blk_below (g := gb385) (o := .cells #[.slice Ao26 t382.length co26] 28 (0, 0)) (by (with_reducible repeat (first | refine blk_drewN ?_ _ | refine blk_drew ?_ | refine blk_alloc ?_ _)); exact BK385.out) hb)
            have n7_ := Aside0.mk (blk_below (g := gb390) (o := .cells #[.slice Ao32 t386.length co32] 28 (0, 0)) (by (with_reducible repeat (first | refine blk_drewN ?_ _ | refine blk_drew ?_ | refine blk_alloc ?_ _)); exact BK390.out) hb)
            have n8_ := Aside0.mk (below_step (by repeat (first | (with_reducible first | exact HB.out | apply below_alloc | apply pw_below_drewN | apply below_drew1 | refine below_set ?_ GE372.out | refine below_set ?_ GE381.out | refine below_set ?_ GE385.out | refine below_set ?_ GE390.out) | exact HB.out)) hb)
            clear HO_382000
            clear HO_386000
            clear HO_391000
            clear BK372
            clear BK381
            clear BK385
            clear BK390
            clear HB
            have HO_382000 := n0_
            have HO_386000 := n1_
            have HO_391000 := n2_
            have HO394 := n3_
            have BK372 := n4_
            have BK381 := n5_
            have BK385 := n6_
            have BK390 := n7_
            have HB := n8_
            clear n0_ n1_ n2_ n3_ n4_ n5_ n6_ n7_ n8_
            (try clear hb)
            (try clear hb2)
            (try clear hk)
            (try clear hi)
            (try clear ho0)
            obtain ⟨Ao63, co63, eo63⟩ := Kd.R_slice HO394.out
            (first | subst eo63 | (injection eo63 with f1_ f2_ f3_; have f4_ := f1_.symm; have f5_ := f3_.symm; clear f1_ f2_ f3_; subst f4_; subst f5_))
            refine hK.out _ _ ⟨(blk_cell BK385.out 0).trans rfl, (blk_cell BK372.out 0).trans rfl⟩ (fun hHeld => ?_)
            clear hK K
            refine norm_ (a' := ?_) ?_ ?_
            rotate_left
            · show Act.put _ (some 43) _ = _
              simp only [Act.put, List.setIfInBounds_toArray, List.set_cons_zero, List.set_cons_succ, i64_w, i32_w]
              rfl
            refine one_ (i := 3) (N := some 44) #[true, true, true, true, false] rfl rfl (by kernel_rfl) (by decide) (fun K hK => ?_)
            refine goes_ Tryz.func10 (by kernel_rfl) rfl #[.agg #[.slice Ao26 t382.length co26], .agg #[.slice Ao63 t392.length co63]] (by rfl) rfl rfl (by (try simp only [List.map_toArray, List.map_cons, List.map_nil]); first | done | rfl | (simp only [List.length_drop, List.length_take]; rfl)) ?_
            with_reducible refine (laws_eqTrie.calls kj10 _ _ t382 _ _ t392 true _ ?side1 ?side2 ?side3 ?side4 A57.out).mono ?_
            (case side1 => repeat (first | exact (Kd.R_reads' HO_386000.out).2.2 | (with_reducible refine Kd.C_alloc ?_ _) | (with_reducible refine Kd.C_drewN ?_ _) | (with_reducible refine Kd.C_drew ?_)))
            (case side2 => exact (Kd.R_reads' HO_386000.out).2.1)
            (case side3 => repeat (first | exact (Kd.R_reads' HO394.out).2.2 | (with_reducible refine Kd.C_alloc ?_ _) | (with_reducible refine Kd.C_drewN ?_ _) | (with_reducible refine Kd.C_drew ?_)))
            (case side4 => exact (Kd.R_reads' HO394.out).2.1)
            rintro e w64 ⟨rfl, hb⟩
            refine ⟨_, rfl, ?_⟩
            have n0_ := Aside0.mk (Kd.R_below (by (with_reducible repeat (first | apply Kd.R_alloc | apply Kd.R_drewN | apply Kd.R_drew)); exact HO_382000.out) hb)
            have n1_ := Aside0.mk (Kd.R_below (by (with_reducible repeat (first | apply Kd.R_alloc | apply Kd.R_drewN | apply Kd.R_drew)); exact HO_386000.out) hb)
            have n2_ := Aside0.mk (Kd.R_below (by (with_reducible repeat (first | apply Kd.R_alloc | apply Kd.R_drewN | apply Kd.R_drew)); exact HO_391000.out) hb)
            have n3_ := Aside0.mk (Kd.R_below (by (with_reducible repeat (first | apply Kd.R_alloc | apply Kd.R_drewN | apply Kd.R_drew)); exact HO394.out) hb)
            have n4_ := Aside0.mk (blk_below (g := gb372) (o := .cells #[.slice A0_0 l0_0.length c0_0] 24 (0, 0)) (by (with_reducible repeat (first | refine blk_drewN ?_ _ | refine blk_drew ?_ | refine blk_alloc ?_ _)); exact BK372.out) hb)
            have n5_ := Aside0.mk (blk_below (g := gb381) (o := .cells #[.slice Ao20 t377.length co20] 28 (0, 0)) (by (with_reducible repeat (first | refine blk_drewN ?_ _ | refine blk_drew ?_ | refine blk_alloc ?_ _)); exact BK381.out) hb)
            have n6_ := Aside0.mk (blk_below (g := gb385) (o := .cells #[.slice Ao26 t382.length co26] 28 (0, 0)) (by (with_reducible repeat (first | refine blk_drewN ?_ _ | refine blk_drew ?_ | refine blk_alloc ?_ _)); exact BK385.out) hb)
            have n7_ := Aside0.mk (blk_below (g := gb390) (o := .cells #[.slice Ao32 t386.length co32] 28 (0, 0)) (by (with_reducible repeat (first | refine blk_drewN ?_ _ | refine blk_drew ?_ | refine blk_alloc ?_ _)); exact BK390.out) hb)
            have n8_ := Aside0.mk (below_step (by repeat (first | (with_reducible first | exact HB.out | apply below_alloc | apply pw_below_drewN | apply below_drew1 | refine below_set ?_ GE372.out | refine below_set ?_ GE381.out | refine below_set ?_ GE385.out | refine below_set ?_ GE390.out) | exact HB.out)) hb)
            clear HO_382000
            clear HO_386000
            clear HO_391000
            clear HO394
            clear BK372
            clear BK381
            clear BK385
            clear BK390
            clear HB
            have HO_382000 := n0_
            have HO_386000 := n1_
            have HO_391000 := n2_
            have HO394 := n3_
            have BK372 := n4_
            have BK381 := n5_
            have BK385 := n6_
            have BK390 := n7_
            have HB := n8_
            clear n0_ n1_ n2_ n3_ n4_ n5_ n6_ n7_ n8_
            (try clear hb)
            (try clear hb2)
            (try clear hk)
            (try clear hi)
            refine hK.out _ _ ⟨(blk_cell BK385.out 0).trans rfl, (blk_cell BK372.out 0).trans rfl⟩ (fun hHeld => ?_)
            clear hK K
            refine norm_ (a' := ?_) ?_ ?_
            rotate_left
            · show Act.put _ (some 44) _ = _
              simp only [Act.put, List.setIfInBounds_toArray, List.set_cons_zero, List.set_cons_succ, i64_w, i32_w]
              rfl
            refine pure_ (i := 4) (N := some 45) (v := ?_) (a' := ?_) #[true, true, true, true, true] rfl rfl (by kernel_rfl) (fun _ _ _ h => h) (Or.inl ⟨by rfl, ?_⟩) ?_ ?_
            rotate_left
            · intro w'
              go_simp
              with_reducible rfl
            rotate_left
            · simp only [Act.put, List.setIfInBounds_toArray, List.set_cons_zero, List.set_cons_succ, i64_w, i32_w]
              rfl
            refine done_ (by kernel_rfl) ?_
            have hnb65 := NB385_372.out
            have hnc65 := NB372_385.out
            have hnb66 := NB385_381.out
            have hnc66 := NB381_385.out
            have hnb67 := NB385_390.out
            have hnc67 := NB390_385.out
            have hcz68_0 : w64.cell? ⟨gb385, 0, none⟩ = some (.slice Ao26 t382.length co26) := (blk_cell BK385.out 0).trans rfl
            have hfz68_0 := blk_frozen BK385.out 0
            go_upto_region 14 with (first | ((with_reducible refine gate_callee (f := 11) rfl ?_); refine goesL_ (some 48) rfl rfl Tryz.func11 (by kernel_rfl) rfl #[.agg #[.slice Ao26 t382.length co26], .int .i64 1] rfl (by (try simp only [List.map_toArray, List.map_cons, List.map_nil]); first | done | rfl | (simp only [List.length_drop, List.length_take]; rfl)) ?_; (with_reducible refine (laws_markTrie.calls kj10 (fun k_ => some k_ = (.slice Ao26 t382.length co26 : Value).ownBlock) (.slice Ao26 t382.length co26) t382 1 t396 t397 w _ ?side1 ?side2 A59.out).mono ?_); (case side1 => repeat (first | (with_reducible first | exact HB.out | apply below_alloc | apply pw_below_drewN | apply below_drew1 | refine below_set ?_ GE372.out | refine below_set ?_ GE381.out | refine below_set ?_ GE385.out | refine below_set ?_ GE390.out) | exact HB.out)); (case side2 => exact Kd.R_tight rfl HO_386000.out); rintro e w69 ⟨rfl, hy0, hb, hkp⟩; refine ⟨_, rfl, ?_⟩; have n0_ := Aside0.mk (Kd.R_mono (ok' := fun k_ => some k_ ≠ (.slice Ao26 t382.length co26 : Value).ownBlock ∧ some k_ ≠ (.slice Ao32 t386.length co32 : Value).ownBlock ∧ some k_ ≠ (.slice Ao63 t392.length co63 : Value).ownBlock) (Kd.R_keptB (HO_382000.out) hkp (fun k_ hk_ hs_ => (hk_.1.1) hs_)) (fun k_ hk_ => ⟨hk_.1.1.1, hk_.1.1.2, hk_.1.2⟩)); have n1_ := Aside0.mk (Kd.R_reok rfl hy0 (fun k_ e_ => HO_386000.out.1 k_ e_)); have n2_ := Aside0.mk (Kd.R_mono (ok' := fun k_ => some k_ ≠ (.slice Ao20 t377.length co20 : Value).ownBlock ∧ some k_ ≠ (.slice Ao26 t382.length co26 : Value).ownBlock ∧ some k_ ≠ (.slice Ao63 t392.length co63 : Value).ownBlock) (Kd.R_keptB (HO_391000.out) hkp (fun k_ hk_ hs_ => (hk_.1.2) hs_)) (fun k_ hk_ => ⟨hk_.1.1.1, hk_.1.1.2, hk_.1.2⟩)); have n3_ := Aside0.mk (blk_kept (by (with_reducible repeat (first | refine blk_drewN ?_ _ | refine blk_drew ?_ | refine blk_alloc ?_ _)); exact BK372.out) hkp (fun hs_ => (fun e_ => (Kd.R_ne HO_386000.out BK372.out (by decide)) e_) hs_)); have n4_ := Aside0.mk (blk_kept (by (with_reducible repeat (first | refine blk_drewN ?_ _ | refine blk_drew ?_ | refine blk_alloc ?_ _)); exact BK381.out) hkp (fun hs_ => (fun e_ => (Kd.R_ne HO_386000.out BK381.out (by decide)) e_) hs_)); have n5_ := Aside0.mk (blk_kept (by (with_reducible repeat (first | refine blk_drewN ?_ _ | refine blk_drew ?_ | refine blk_alloc ?_ _)); exact BK385.out) hkp (fun hs_ => (fun e_ => (Kd.R_ne HO_386000.out BK385.out (by decide)) e_) hs_)); have n6_ := Aside0.mk (blk_kept (by (with_reducible repeat (first | refine blk_drewN ?_ _ | refine blk_drew ?_ | refine blk_alloc ?_ _)); exact BK390.out) hkp (fun hs_ => (fun e_ => (Kd.R_ne HO_386000.out BK390.out (by decide)) e_) hs_)); have n7_ := Aside0.mk (Kd.R_mono (ok' := fun k_ => some k_ ≠ (.slice Ao20 t377.length co20 : Value).ownBlock ∧ some k_ ≠ (.slice Ao26 t382.length co26 : Value).ownBlock ∧ some k_ ≠ (.slice Ao32 t386.length co32 : Value).ownBlock) (Kd.R_keptB (HO394.out) hkp (fun k_ hk_ hs_ => (hk_.1.2) hs_)) (fun k_ hk_ => ⟨hk_.1.1.1.2, hk_.1.1.2, hk_.1.2⟩)); have n8_ := Aside0.mk (hb); clear HO_382000; clear HO_386000; clear HO_391000; clear BK372; clear BK381; clear BK385; clear BK390; clear HO394; clear HB; have HO_382000 := n0_; have HO_386000 := n1_; have HO_391000 := n2_; have BK372 := n3_; have BK381 := n4_; have BK385 := n5_; have BK390 := n6_; have HO394 := n7_; have HB := n8_; clear n0_ n1_ n2_ n3_ n4_ n5_ n6_ n7_ n8_; (try clear hb); (try clear hkp); (try clear hy0)))
            (try simp only [Act.put, List.setIfInBounds_toArray, List.set_cons_zero, List.set_cons_succ])
            go_cut [61] (fun v61 wc => ∃ (kq : Nat) (x61_59 : Bool), v61 = .bool x61_59 ∧ Aside0 (laws_FnExactTurnTrie.j1 kq t380 x61_59 l0_0 t377 t386 = some true) ∧ Aside0 (kq ≤ kj10) ∧ Aside0 (Kd.R k62 62 wc w.heap.size (fun k_ => some k_ ≠ ((.slice Ao26 t382.length co26) : Value).ownBlock ∧ some k_ ≠ ((.slice Ao32 t386.length co32) : Value).ownBlock) (.slice Ao20 t377.length co20) t377) ∧ Aside0 (Kd.R k62 62 wc w.heap.size (fun k_ => some k_ ≠ ((.slice Ao20 t377.length co20) : Value).ownBlock ∧ some k_ ≠ ((.slice Ao32 t386.length co32) : Value).ownBlock) (.slice Ao26 t382.length co26) t397) ∧ Aside0 (Kd.R k62 62 wc w.heap.size (fun k_ => some k_ ≠ ((.slice Ao20 t377.length co20) : Value).ownBlock ∧ some k_ ≠ ((.slice Ao26 t382.length co26) : Value).ownBlock) (.slice Ao32 t386.length co32) t386) ∧ Aside0 (wc.heap[gb372]? = some (.cells #[(.slice A0_0 l0_0.length c0_0)] 24 (0, 0))) ∧ Aside0 (wc.heap[gb381]? = some (.cells #[(.slice Ao20 t377.length co20)] 28 (0, 0))) ∧ Aside0 (wc.heap[gb385]? = some (.cells #[(.slice Ao26 t382.length co26)] 28 (0, 0))) ∧ Aside0 (wc.heap[gb390]? = some (.cells #[(.slice Ao32 t386.length co32)] 28 (0, 0))) ∧ Aside0 (Below w.heap.size w wc))
            case first =>
              have H := HC60.out
              clear HC60
              by_cases c70 : t396 < 0
              · rw [if_pos c70] at H
                exact absurd H (by cases kj10 <;> simp [laws_FnExactTurnTrie.j1])
              · rw [if_neg c70] at H
                have c70b0 : decide (t396 < 0) = false := decide_eq_false c70
                clear c70
                (first | rw [c70b0] | (simp only [i64_w, i32_w]; rw [c70b0]) | skip)
                replace H := Option.bind_eq_some_iff.mp H
                obtain ⟨t398, A710, H⟩ := H
                replace H : (if t398 = true then (laws_FnExactTurnTrie.j1 kj10 t380 (t389 != t380) l0_0 t377 t386) else (laws_FnExactTurnTrie.j1 kj10 t380 true l0_0 t377 t386)) = some true := H
                have A71 := Aside0.mk A710
                clear A710
                by_cases c72 : t398 = true
                · subst c72
                  have H1 : (laws_FnExactTurnTrie.j1 kj10 t380 (t389 != t380) l0_0 t377 t386) = some true := by rw [if_pos rfl] at H; exact H
                  clear H
                  have H := H1
                  clear H1
                  have H' := Aside0.mk H
                  clear H
                  have hnb73 := NB390_372.out
                  have hnc73 := NB372_390.out
                  have hnb74 := NB390_381.out
                  have hnc74 := NB381_390.out
                  have hnb75 := NB390_385.out
                  have hnc75 := NB385_390.out
                  have hcz76_0 : w69.cell? ⟨gb390, 0, none⟩ = some (.slice Ao32 t386.length co32) := (blk_cell BK390.out 0).trans rfl
                  have hfz76_0 := blk_frozen BK390.out 0
                  have hnb77 := NB381_372.out
                  have hnc77 := NB372_381.out
                  have hnb78 := NB381_385.out
                  have hnc78 := NB385_381.out
                  have hcz79_0 : w69.cell? ⟨gb381, 0, none⟩ = some (.slice Ao20 t377.length co20) := (blk_cell BK381.out 0).trans rfl
                  have hfz79_0 := blk_frozen BK381.out 0
                  go_wp2_with (first | (go_at_call 10; (with_reducible refine (laws_eqTrie.calls kj10 _ _ t386 _ _ t377 true _ ?side1 ?side2 ?side3 ?side4 A71.out).mono ?_); (case side1 => repeat (first | exact (Kd.R_reads' HO_391000.out).2.2 | (with_reducible refine Kd.C_alloc ?_ _) | (with_reducible refine Kd.C_drewN ?_ _) | (with_reducible refine Kd.C_drew ?_))); (case side2 => exact (Kd.R_reads' HO_391000.out).2.1); (case side3 => repeat (first | exact (Kd.R_reads' HO_382000.out).2.2 | (with_reducible refine Kd.C_alloc ?_ _) | (with_reducible refine Kd.C_drewN ?_ _) | (with_reducible refine Kd.C_drew ?_))); (case side4 => exact (Kd.R_reads' HO_382000.out).2.1); rintro e w80 ⟨rfl, hb⟩; have n0_ := Aside0.mk (Kd.R_below (by (with_reducible repeat (first | apply Kd.R_alloc | apply Kd.R_drewN | apply Kd.R_drew)); exact HO_382000.out) hb); have n1_ := Aside0.mk (Kd.R_below (by (with_reducible repeat (first | apply Kd.R_alloc | apply Kd.R_drewN | apply Kd.R_drew)); exact HO_386000.out) hb); have n2_ := Aside0.mk (Kd.R_below (by (with_reducible repeat (first | apply Kd.R_alloc | apply Kd.R_drewN | apply Kd.R_drew)); exact HO_391000.out) hb); have n3_ := Aside0.mk (Kd.R_below (by (with_reducible repeat (first | apply Kd.R_alloc | apply Kd.R_drewN | apply Kd.R_drew)); exact HO394.out) hb); have n4_ := Aside0.mk (blk_below (g := gb372) (o := .cells #[.slice A0_0 l0_0.length c0_0] 24 (0, 0)) (by (with_reducible repeat (first | refine blk_drewN ?_ _ | refine blk_drew ?_ | refine blk_alloc ?_ _)); exact BK372.out) hb); have n5_ := Aside0.mk (blk_below (g := gb381) (o := .cells #[.slice Ao20 t377.length co20] 28 (0, 0)) (by (with_reducible repeat (first | refine blk_drewN ?_ _ | refine blk_drew ?_ | refine blk_alloc ?_ _)); exact BK381.out) hb); have n6_ := Aside0.mk (blk_below (g := gb385) (o := .cells #[.slice Ao26 t382.length co26] 28 (0, 0)) (by (with_reducible repeat (first | refine blk_drewN ?_ _ | refine blk_drew ?_ | refine blk_alloc ?_ _)); exact BK385.out) hb); have n7_ := Aside0.mk (blk_below (g := gb390) (o := .cells #[.slice Ao32 t386.length co32] 28 (0, 0)) (by (with_reducible repeat (first | refine blk_drewN ?_ _ | refine blk_drew ?_ | refine blk_alloc ?_ _)); exact BK390.out) hb); have n8_ := Aside0.mk (below_step (by repeat (first | (with_reducible first | exact HB.out | apply below_alloc | apply pw_below_drewN | apply below_drew1 | refine below_set ?_ GE372.out | refine below_set ?_ GE381.out | refine below_set ?_ GE385.out | refine below_set ?_ GE390.out) | exact HB.out)) hb); clear HO_382000; clear HO_386000; clear HO_391000; clear HO394; clear BK372; clear BK381; clear BK385; clear BK390; clear HB; have HO_382000 := n0_; have HO_386000 := n1_; have HO_391000 := n2_; have HO394 := n3_; have BK372 := n4_; have BK381 := n5_; have BK385 := n6_; have BK390 := n7_; have HB := n8_; clear n0_ n1_ n2_ n3_ n4_ n5_ n6_ n7_ n8_; (try clear hb); (try clear hb2); (try clear hk); (try clear hi)))
                  go_meet
                  case rel => exact ⟨_, ((t389 != t380)), (by first | rfl | (simp; done) | (simp [*]; done)), H', ⟨by have := HJ10.out; first | omega | exact Nat.le_refl _⟩, ⟨by (with_reducible repeat (first | apply Kd.R_alloc | apply Kd.R_drewN | apply Kd.R_drew)); exact Kd.R_mono HO_382000.out (fun _ hk => ⟨hk.1, hk.2.1⟩)⟩, ⟨by (with_reducible repeat (first | apply Kd.R_alloc | apply Kd.R_drewN | apply Kd.R_drew)); exact Kd.R_mono HO_386000.out (fun _ hk => ⟨hk.1.1, hk.1.2⟩)⟩, ⟨by (with_reducible repeat (first | apply Kd.R_alloc | apply Kd.R_drewN | apply Kd.R_drew)); exact Kd.R_mono HO_391000.out (fun _ hk => ⟨hk.1, hk.2.1⟩)⟩, ⟨by (with_reducible repeat (first | refine blk_drewN ?_ _ | refine blk_drew ?_ | refine blk_alloc ?_ _)); exact BK372.out⟩, ⟨by (with_reducible repeat (first | refine blk_drewN ?_ _ | refine blk_drew ?_ | refine blk_alloc ?_ _)); exact BK381.out⟩, ⟨by (with_reducible repeat (first | refine blk_drewN ?_ _ | refine blk_drew ?_ | refine blk_alloc ?_ _)); exact BK385.out⟩, ⟨by (with_reducible repeat (first | refine blk_drewN ?_ _ | refine blk_drew ?_ | refine blk_alloc ?_ _)); exact BK390.out⟩, ⟨by repeat (first | (with_reducible first | exact HB.out | apply below_alloc | apply pw_below_drewN | apply below_drew1 | refine below_set ?_ GE372.out | refine below_set ?_ GE381.out | refine below_set ?_ GE385.out | refine below_set ?_ GE390.out) | exact HB.out)⟩⟩
                · replace c72 := Bool.eq_false_iff.mpr c72
                  subst c72
                  have H1 : (laws_FnExactTurnTrie.j1 kj10 t380 true l0_0 t377 t386) = some true := by rw [if_neg (show ¬ (false = true) by decide)] at H; exact H
                  exact absurd H1 (by cases kj10 <;> simp [laws_FnExactTurnTrie.j1])
            case rest =>
              clear HC60
              try clear c1
              try clear c2
              try clear p2
              try clear c3
              try clear c3b0
              try clear c4
              try clear c5
              try clear c6
              try clear c7
              try clear c8
              try clear c9
              try clear c10
              try clear c11
              try clear c21
              try clear c27
              try clear c28
              try clear c33
              try clear c34
              try clear c35
              try clear c38
              try clear c39
              try clear c40
              try clear c41
              try clear c43
              try clear c44
              try clear c47
              try clear c48
              try clear c49
              try clear c51
              try clear c52
              try clear c55
              try clear c58
              try clear c65
              try clear c66
              try clear c67
              try clear c70
              try clear c70b0
              try clear c72
              try clear c73
              try clear c74
              try clear c75
              try clear c77
              try clear c78
              try clear c81
              try clear c82
              try clear c83
              try clear c85
              try clear c86
              try clear hcz13_0
              try clear hcz15_0
              try clear hcz22_0
              try clear hcz23_0
              try clear hcz29_0
              try clear hcz36_0
              try clear hcz42_0
              try clear hcz45_0
              try clear hcz50_0
              try clear hcz53_0
              try clear hcz5_0
              try clear hcz68_0
              try clear hcz76_0
              try clear hcz79_0
              try clear hcz84_0
              try clear hcz87_0
              try clear hfz13_0
              try clear hfz15_0
              try clear hfz22_0
              try clear hfz23_0
              try clear hfz29_0
              try clear hfz36_0
              try clear hfz42_0
              try clear hfz45_0
              try clear hfz50_0
              try clear hfz53_0
              try clear hfz5_0
              try clear hfz68_0
              try clear hfz76_0
              try clear hfz79_0
              try clear hfz84_0
              try clear hfz87_0
              try clear p2
              obtain ⟨kq, x61_59, rfl, HA, HJ59, HO_382000, HO_386000, HO_391000, BK372, BK381, BK385, BK390, HB⟩ := hcut
              have hl386000_59 := (Kd.R_reads' HO_386000.out).1
              rw [hl386000_59] at HO_386000
              (try simp only [hl386000_59])
              (try simp only [hl386000_59] at BK372)
              (try simp only [hl386000_59] at BK381)
              (try simp only [hl386000_59] at BK385)
              (try simp only [hl386000_59] at BK390)
              (try simp only [hl386000_59] at HO_382000)
              (try simp only [hl386000_59] at HO_391000)
              cases kq with
              | zero => exact absurd HA.out (by simp [laws_FnExactTurnTrie.j1])
              | succ kj59 =>
                have H := HA.out
                clear HA
                simp only [laws_FnExactTurnTrie.j1] at H
                by_cases c89 : x61_59 = true
                · subst c89
                  have H1 : (some false) = some true := by rw [if_pos rfl] at H; exact H
                  exact absurd H1 (by simp)
                · replace c89 := Bool.eq_false_iff.mpr c89
                  subst c89
                  have H1 : ((laws_markTrie.f kj59 t386 1).bind fun bt399 => ((laws_heldTrie.f kj59 bt399.2 1).bind fun t401 => (if t401 < 0 then (some false) else (if t401 = bt399.1 then ((laws_toTrie.f kj59 l0_0).bind fun t402 => ((impl_TurnTrie.f t402).bind fun bt405 => ((laws_eqTrie.f kj59 bt405.1 t377).bind fun t410 => (if t410 = true then (laws_FnExactTurnTrie.j2 kj59 bt399.1 (bt405.2 != t380) bt399.2) else (laws_FnExactTurnTrie.j2 kj59 bt399.1 true bt399.2))))) else (some false))))) = some true := by rw [if_neg (show ¬ (false = true) by decide)] at H; exact H
                  clear H
                  have H := H1
                  clear H1
                  replace H := Option.bind_eq_some_iff.mp H
                  obtain ⟨⟨t399, t400⟩, A900, H⟩ := H
                  replace H : ((laws_heldTrie.f kj59 t400 1).bind fun t401 => (if t401 < 0 then (some false) else (if t401 = t399 then ((laws_toTrie.f kj59 l0_0).bind fun t402 => ((impl_TurnTrie.f t402).bind fun bt405 => ((laws_eqTrie.f kj59 bt405.1 t377).bind fun t410 => (if t410 = true then (laws_FnExactTurnTrie.j2 kj59 t399 (bt405.2 != t380) t400) else (laws_FnExactTurnTrie.j2 kj59 t399 true t400))))) else (some false)))) = some true := H
                  have A90 := Aside0.mk A900
                  clear A900
                  replace H := Option.bind_eq_some_iff.mp H
                  obtain ⟨t401, A910, H⟩ := H
                  replace H : (if t401 < 0 then (some false) else (if t401 = t399 then ((laws_toTrie.f kj59 l0_0).bind fun t402 => ((impl_TurnTrie.f t402).bind fun bt405 => ((laws_eqTrie.f kj59 bt405.1 t377).bind fun t410 => (if t410 = true then (laws_FnExactTurnTrie.j2 kj59 t399 (bt405.2 != t380) t400) else (laws_FnExactTurnTrie.j2 kj59 t399 true t400))))) else (some false))) = some true := H
                  have A91 := Aside0.mk A910
                  clear A910
                  by_cases c92 : t401 < 0
                  · rw [if_pos c92] at H
                    exact absurd H (by simp)
                  · rw [if_neg c92] at H
                    have c92b0 : decide (t401 < 0) = false := decide_eq_false c92
                    clear c92
                    by_cases c100 : t401 = t399
                    · rw [if_pos c100] at H
                      have c100b0 : (t401 == t399) = true := beq_iff_eq.mpr c100
                      have c100b1 : (t401 != t399) = false := bne_eq_false_iff_eq.mpr c100
                      clear c100
                      replace H := Option.bind_eq_some_iff.mp H
                      obtain ⟨t402, A1010, H⟩ := H
                      replace H : ((impl_TurnTrie.f t402).bind fun bt405 => ((laws_eqTrie.f kj59 bt405.1 t377).bind fun t410 => (if t410 = true then (laws_FnExactTurnTrie.j2 kj59 t399 (bt405.2 != t380) t400) else (laws_FnExactTurnTrie.j2 kj59 t399 true t400)))) = some true := H
                      have A101 := Aside0.mk A1010
                      clear A1010
                      replace H := Option.bind_eq_some_iff.mp H
                      obtain ⟨⟨t405, t408⟩, A1020, H⟩ := H
                      replace H : ((laws_eqTrie.f kj59 t405 t377).bind fun t410 => (if t410 = true then (laws_FnExactTurnTrie.j2 kj59 t399 (t408 != t380) t400) else (laws_FnExactTurnTrie.j2 kj59 t399 true t400))) = some true := H
                      have A102 := Aside0.mk A1020
                      clear A1020
                      have HC103 := Aside0.mk H
                      clear H
                      have hnb104 := NB390_372.out
                      have hnc104 := NB372_390.out
                      have hnb105 := NB390_381.out
                      have hnc105 := NB381_390.out
                      have hnb106 := NB390_385.out
                      have hnc106 := NB385_390.out
                      have hcz107_0 : wc.cell? ⟨gb390, 0, none⟩ = some (.slice Ao32 t386.length co32) := (blk_cell BK390.out 0).trans rfl
                      have hfz107_0 := blk_frozen BK390.out 0
                      go_upto_region 25 with (first | ((with_reducible refine gate_callee (f := 11) rfl ?_); refine goesL_ (some 64) rfl rfl Tryz.func11 (by kernel_rfl) rfl #[.agg #[.slice Ao32 t386.length co32], .int .i64 1] rfl (by (try simp only [List.map_toArray, List.map_cons, List.map_nil]); first | done | rfl | (simp only [List.length_drop, List.length_take]; rfl)) ?_; (with_reducible refine (laws_markTrie.calls kj59 (fun k_ => some k_ = (.slice Ao32 t386.length co32 : Value).ownBlock) (.slice Ao32 t386.length co32) t386 1 t399 t400 w _ ?side1 ?side2 A90.out).mono ?_); (case side1 => repeat (first | (with_reducible first | exact HB.out | apply below_alloc | apply pw_below_drewN | apply below_drew1 | refine below_set ?_ GE372.out | refine below_set ?_ GE381.out | refine below_set ?_ GE385.out | refine below_set ?_ GE390.out) | exact HB.out)); (case side2 => exact Kd.R_tight rfl HO_391000.out); rintro e w108 ⟨rfl, hy0, hb, hkp⟩; refine ⟨_, rfl, ?_⟩; have n0_ := Aside0.mk (Kd.R_mono (ok' := fun k_ => some k_ ≠ (.slice Ao26 t397.length co26 : Value).ownBlock ∧ some k_ ≠ (.slice Ao32 t386.length co32 : Value).ownBlock) (Kd.R_keptB (HO_382000.out) hkp (fun k_ hk_ hs_ => (hk_.2) hs_)) (fun k_ hk_ => ⟨hk_.1.1, hk_.1.2⟩)); have n1_ := Aside0.mk (Kd.R_mono (ok' := fun k_ => some k_ ≠ (.slice Ao20 t377.length co20 : Value).ownBlock ∧ some k_ ≠ (.slice Ao32 t386.length co32 : Value).ownBlock) (Kd.R_keptB (HO_386000.out) hkp (fun k_ hk_ hs_ => (hk_.2) hs_)) (fun k_ hk_ => ⟨hk_.1.1, hk_.1.2⟩)); have n2_ := Aside0.mk (Kd.R_reok rfl hy0 (fun k_ e_ => HO_391000.out.1 k_ e_)); have n3_ := Aside0.mk (blk_kept (by (with_reducible repeat (first | refine blk_drewN ?_ _ | refine blk_drew ?_ | refine blk_alloc ?_ _)); exact BK372.out) hkp (fun hs_ => (fun e_ => (Kd.R_ne HO_391000.out BK372.out (by decide)) e_) hs_)); have n4_ := Aside0.mk (blk_kept (by (with_reducible repeat (first | refine blk_drewN ?_ _ | refine blk_drew ?_ | refine blk_alloc ?_ _)); exact BK381.out) hkp (fun hs_ => (fun e_ => (Kd.R_ne HO_391000.out BK381.out (by decide)) e_) hs_)); have n5_ := Aside0.mk (blk_kept (by (with_reducible repeat (first | refine blk_drewN ?_ _ | refine blk_drew ?_ | refine blk_alloc ?_ _)); exact BK385.out) hkp (fun hs_ => (fun e_ => (Kd.R_ne HO_391000.out BK385.out (by decide)) e_) hs_)); have n6_ := Aside0.mk (blk_kept (by (with_reducible repeat (first | refine blk_drewN ?_ _ | refine blk_drew ?_ | refine blk_alloc ?_ _)); exact BK390.out) hkp (fun hs_ => (fun e_ => (Kd.R_ne HO_391000.out BK390.out (by decide)) e_) hs_)); have n7_ := Aside0.mk (hb); clear HO_382000; clear HO_386000; clear HO_391000; clear BK372; clear BK381; clear BK385; clear BK390; clear HB; have HO_382000 := n0_; have HO_386000 := n1_; have HO_391000 := n2_; have BK372 := n3_; have BK381 := n4_; have BK385 := n5_; have BK390 := n6_; have HB := n7_; clear n0_ n1_ n2_ n3_ n4_ n5_ n6_ n7_; (try clear hb); (try clear hkp); (try clear hy0); have hcz109_0 : w108.cell? ⟨gb390, 0, none⟩ = some (.slice Ao32 t386.length co32) := (blk_cell BK390.out 0).trans rfl; have hfz109_0 := blk_frozen BK390.out 0) | ((with_reducible refine gate_callee (f := 12) rfl ?_); refine goesL_ (some 67) rfl rfl Tryz.func12 (by kernel_rfl) rfl #[.agg #[.slice Ao32 t400.length co32], .int .i64 1] rfl (by (try simp only [List.map_toArray, List.map_cons, List.map_nil]); first | done | (rw [show t400.length = t386.length from (Kd.R_reads' HO_391000.out).1.symm] <;> rfl) | rfl | (simp only [List.length_drop, List.length_take]; rfl)) ?_; (with_reducible refine (laws_heldTrie.calls kj59 _ _ t400 1 t401 _ ?side1 ?side2 A91.out).mono ?_); (case side1 => repeat (first | exact (Kd.R_reads' HO_391000.out).2.2 | (with_reducible refine Kd.C_alloc ?_ _) | (with_reducible refine Kd.C_drewN ?_ _) | (with_reducible refine Kd.C_drew ?_))); (case side2 => rw [show t400.length = t386.length from (Kd.R_reads' HO_391000.out).1.symm]; exact (Kd.R_reads' HO_391000.out).2.1); rintro e w110 ⟨rfl, hb⟩; refine ⟨_, rfl, ?_⟩; have n0_ := Aside0.mk (Kd.R_below (by (with_reducible repeat (first | apply Kd.R_alloc | apply Kd.R_drewN | apply Kd.R_drew)); exact HO_382000.out) hb); have n1_ := Aside0.mk (Kd.R_below (by (with_reducible repeat (first | apply Kd.R_alloc | apply Kd.R_drewN | apply Kd.R_drew)); exact HO_386000.out) hb); have n2_ := Aside0.mk (Kd.R_below (by (with_reducible repeat (first | apply Kd.R_alloc | apply Kd.R_drewN | apply Kd.R_drew)); exact HO_391000.out) hb); have n3_ := Aside0.mk (blk_below (g := gb372) (o := .cells #[.slice A0_0 l0_0.length c0_0] 24 (0, 0)) (by (with_reducible repeat (first | refine blk_drewN ?_ _ | refine blk_drew ?_ | refine blk_alloc ?_ _)); exact BK372.out) hb); have n4_ := Aside0.mk (blk_below (g := gb381) (o := .cells #[.slice Ao20 t377.length co20] 28 (0, 0)) (by (with_reducible repeat (first | refine blk_drewN ?_ _ | refine blk_drew ?_ | refine blk_alloc ?_ _)); exact BK381.out) hb); have n5_ := Aside0.mk (blk_below (g := gb385) (o := .cells #[.slice Ao26 t397.length co26] 28 (0, 0)) (by (with_reducible repeat (first | refine blk_drewN ?_ _ | refine blk_drew ?_ | refine blk_alloc ?_ _)); exact BK385.out) hb); have n6_ := Aside0.mk (blk_below (g := gb390) (o := .cells #[.slice Ao32 t386.length co32] 28 (0, 0)) (by (with_reducible repeat (first | refine blk_drewN ?_ _ | refine blk_drew ?_ | refine blk_alloc ?_ _)); exact BK390.out) hb); have n7_ := Aside0.mk (below_step (by repeat (first | (with_reducible first | exact HB.out | apply below_alloc | apply pw_below_drewN | apply below_drew1 | refine below_set ?_ GE372.out | refine below_set ?_ GE381.out | refine below_set ?_ GE385.out | refine below_set ?_ GE390.out) | exact HB.out)) hb); clear HO_382000; clear HO_386000; clear HO_391000; clear BK372; clear BK381; clear BK385; clear BK390; clear HB; have HO_382000 := n0_; have HO_386000 := n1_; have HO_391000 := n2_; have BK372 := n3_; have BK381 := n4_; have BK385 := n5_; have BK390 := n6_; have HB := n7_; clear n0_ n1_ n2_ n3_ n4_ n5_ n6_ n7_; (try clear hb); (try clear hb2); (try clear hk); (try clear hi); have hnb111 := NB372_381.out; have hnc111 := NB381_372.out; have hnb112 := NB372_385.out; have hnc112 := NB385_372.out; have hcz113_0 : w110.cell? ⟨gb372, 0, none⟩ = some (.slice A0_0 l0_0.length c0_0) := (blk_cell BK372.out 0).trans rfl; have hfz113_0 := blk_frozen BK372.out 0) | ((with_reducible refine gate_callee (f := 8) rfl ?_); refine goesL_ (some 75) rfl rfl Tryz.func8 (by kernel_rfl) rfl #[.agg #[.slice A0_0 l0_0.length c0_0]] rfl (by (try simp only [List.map_toArray, List.map_cons, List.map_nil]); first | done | rfl | (simp only [List.length_drop, List.length_take]; rfl)) ?_; (with_reducible refine (laws_toTrie.calls kj59 _ _ l0_0 t402 _ ?side1 ?side2 A101.out).mono ?_); (case side1 => repeat (first | exact (Kd.C_below HR0_0.out HB.out) | (with_reducible refine Kd.C_alloc ?_ _) | (with_reducible refine Kd.C_drewN ?_ _) | (with_reducible refine Kd.C_drew ?_))); (case side2 => exact HC0_0.out); rintro e w114 ⟨v403, rfl, ho0, hb⟩; refine ⟨_, rfl, ?_⟩; have n0_ := Aside0.mk (Kd.R_elder' (by (with_reducible repeat (first | apply Kd.R_alloc | apply Kd.R_drewN | apply Kd.R_drew)); exact HO_382000.out) (Kd.R_base ho0) hb); have n1_ := Aside0.mk (Kd.R_elder' (by (with_reducible repeat (first | apply Kd.R_alloc | apply Kd.R_drewN | apply Kd.R_drew)); exact HO_386000.out) (Kd.R_base ho0) hb); have n2_ := Aside0.mk (Kd.R_elder' (by (with_reducible repeat (first | apply Kd.R_alloc | apply Kd.R_drewN | apply Kd.R_drew)); exact HO_391000.out) (Kd.R_base ho0) hb); have n3_ := Aside0.mk (Kd.R_lower (Kd.R_new' (Kd.R_new' (Kd.R_new' ho0 (Kd.R_lt (by (with_reducible repeat (first | apply Kd.R_alloc | apply Kd.R_drewN | apply Kd.R_drew)); exact HO_382000.out))) (Kd.R_lt (by (with_reducible repeat (first | apply Kd.R_alloc | apply Kd.R_drewN | apply Kd.R_drew)); exact HO_386000.out))) (Kd.R_lt (by (with_reducible repeat (first | apply Kd.R_alloc | apply Kd.R_drewN | apply Kd.R_drew)); exact HO_391000.out))) (below_size (by repeat (first | (with_reducible first | exact HB.out | apply below_alloc | apply pw_below_drewN | apply below_drew1 | refine below_set ?_ GE372.out | refine below_set ?_ GE381.out | refine below_set ?_ GE385.out | refine below_set ?_ GE390.out) | exact HB.out)))); have n4_ := Aside0.mk (blk_below (g := gb372) (o := .cells #[.slice A0_0 l0_0.length c0_0] 24 (0, 0)) (by (with_reducible repeat (first | refine blk_drewN ?_ _ | refine blk_drew ?_ | refine blk_alloc ?_ _)); exact BK372.out) hb); have n5_ := Aside0.mk (blk_below (g := gb381) (o := .cells #[.slice Ao20 t377.length co20] 28 (0, 0)) (by (with_reducible repeat (first | refine blk_drewN ?_ _ | refine blk_drew ?_ | refine blk_alloc ?_ _)); exact BK381.out) hb); have n6_ := Aside0.mk (blk_below (g := gb385) (o := .cells #[.slice Ao26 t397.length co26] 28 (0, 0)) (by (with_reducible repeat (first | refine blk_drewN ?_ _ | refine blk_drew ?_ | refine blk_alloc ?_ _)); exact BK385.out) hb); have n7_ := Aside0.mk (blk_below (g := gb390) (o := .cells #[.slice Ao32 t386.length co32] 28 (0, 0)) (by (with_reducible repeat (first | refine blk_drewN ?_ _ | refine blk_drew ?_ | refine blk_alloc ?_ _)); exact BK390.out) hb); have n8_ := Aside0.mk (below_step (by repeat (first | (with_reducible first | exact HB.out | apply below_alloc | apply pw_below_drewN | apply below_drew1 | refine below_set ?_ GE372.out | refine below_set ?_ GE381.out | refine below_set ?_ GE385.out | refine below_set ?_ GE390.out) | exact HB.out)) hb); clear HO_382000; clear HO_386000; clear HO_391000; clear BK372; clear BK381; clear BK385; clear BK390; clear HB; have HO_382000 := n0_; have HO_386000 := n1_; have HO_391000 := n2_; have HO404 := n3_; have BK372 := n4_; have BK381 := n5_; have BK385 := n6_; have BK390 := n7_; have HB := n8_; clear n0_ n1_ n2_ n3_ n4_ n5_ n6_ n7_ n8_; (try clear hb); (try clear hb2); (try clear hk); (try clear hi); (try clear ho0); obtain ⟨Ao115, co115, eo115⟩ := Kd.R_slice HO404.out; subst eo115) | ((with_reducible refine gate_callee (f := 9) rfl ?_); refine goesL_ (some 76) rfl rfl Tryz.func9 (by kernel_rfl) rfl #[.agg #[.slice Ao115 t402.length co115]] rfl (by (try simp only [List.map_toArray, List.map_cons, List.map_nil]); first | done | rfl | (simp only [List.length_drop, List.length_take]; rfl)) ?_; (with_reducible refine (impl_TurnTrie.calls _ _ t402 t405 t408 _ ?side1 ?side2 A102.out).mono ?_); (case side1 => repeat (first | exact (Kd.R_reads' HO404.out).2.2 | (with_reducible refine Kd.C_alloc ?_ _) | (with_reducible refine Kd.C_drewN ?_ _) | (with_reducible refine Kd.C_drew ?_))); (case side2 => exact (Kd.R_reads' HO404.out).2.1); rintro e w116 ⟨v406, rfl, ho0, hb⟩; refine ⟨_, rfl, ?_⟩; have n0_ := Aside0.mk (Kd.R_elder' (by (with_reducible repeat (first | apply Kd.R_alloc | apply Kd.R_drewN | apply Kd.R_drew)); exact HO_382000.out) (Kd.R_base ho0) hb); have n1_ := Aside0.mk (Kd.R_elder' (by (with_reducible repeat (first | apply Kd.R_alloc | apply Kd.R_drewN | apply Kd.R_drew)); exact HO_386000.out) (Kd.R_base ho0) hb); have n2_ := Aside0.mk (Kd.R_elder' (by (with_reducible repeat (first | apply Kd.R_alloc | apply Kd.R_drewN | apply Kd.R_drew)); exact HO_391000.out) (Kd.R_base ho0) hb); have n3_ := Aside0.mk (Kd.R_elder' (by (with_reducible repeat (first | apply Kd.R_alloc | apply Kd.R_drewN | apply Kd.R_drew)); exact HO404.out) (Kd.R_base ho0) hb); have n4_ := Aside0.mk (Kd.R_lower (Kd.R_new' (Kd.R_new' (Kd.R_new' (Kd.R_new' ho0 (Kd.R_lt (by (with_reducible repeat (first | apply Kd.R_alloc | apply Kd.R_drewN | apply Kd.R_drew)); exact HO_382000.out))) (Kd.R_lt (by (with_reducible repeat (first | apply Kd.R_alloc | apply Kd.R_drewN | apply Kd.R_drew)); exact HO_386000.out))) (Kd.R_lt (by (with_reducible repeat (first | apply Kd.R_alloc | apply Kd.R_drewN | apply Kd.R_drew)); exact HO_391000.out))) (Kd.R_lt (by (with_reducible repeat (first | apply Kd.R_alloc | apply Kd.R_drewN | apply Kd.R_drew)); exact HO404.out))) (below_size (by repeat (first | (with_reducible first | exact HB.out | apply below_alloc | apply pw_below_drewN | apply below_drew1 | refine below_set ?_ GE372.out | refine below_set ?_ GE381.out | refine below_set ?_ GE385.out | refine below_set ?_ GE390.out) | exact HB.out)))); have n5_ := Aside0.mk (blk_below (g := gb372) (o := .cells #[.slice A0_0 l0_0.length c0_0] 24 (0, 0)) (by (with_reducible repeat (first | refine blk_drewN ?_ _ | refine blk_drew ?_ | refine blk_alloc ?_ _)); exact BK372.out) hb); have n6_ := Aside0.mk (blk_below (g := gb381) (o := .cells #[.slice Ao20 t377.length co20] 28 (0, 0)) (by (with_reducible repeat (first | refine blk_drewN ?_ _ | refine blk_drew ?_ | refine blk_alloc ?_ _)); exact BK381.out) hb); have n7_ := Aside0.mk (blk_below (g := gb385) (o := .cells #[.slice Ao26 t397.length co26] 28 (0, 0)) (by (with_reducible repeat (first | refine blk_drewN ?_ _ | refine blk_drew ?_ | refine blk_alloc ?_ _)); exact BK385.out) hb); have n8_ := Aside0.mk (blk_below (g := gb390) (o := .cells #[.slice Ao32 t386.length co32] 28 (0, 0)) (by (with_reducible repeat (first | refine blk_drewN ?_ _ | refine blk_drew ?_ | refine blk_alloc ?_ _)); exact BK390.out) hb); have n9_ := Aside0.mk (below_step (by repeat (first | (with_reducible first | exact HB.out | apply below_alloc | apply pw_below_drewN | apply below_drew1 | refine below_set ?_ GE372.out | refine below_set ?_ GE381.out | refine below_set ?_ GE385.out | refine below_set ?_ GE390.out) | exact HB.out)) hb); clear HO_382000; clear HO_386000; clear HO_391000; clear HO404; clear BK372; clear BK381; clear BK385; clear BK390; clear HB; have HO_382000 := n0_; have HO_386000 := n1_; have HO_391000 := n2_; have HO404 := n3_; have HO407 := n4_; have BK372 := n5_; have BK381 := n6_; have BK385 := n7_; have BK390 := n8_; have HB := n9_; clear n0_ n1_ n2_ n3_ n4_ n5_ n6_ n7_ n8_ n9_; (try clear hb); (try clear hb2); (try clear hk); (try clear hi); (try clear ho0)) | ((with_reducible refine gate_dst (N := 12) rfl ?_); refine box_event ?hg (N := 12) ?hd (cs := #[.slice none 0 0]) (t := 28) ?hr ?_; (case hd => rfl); (case hg => rfl); (case hr => first | (go_simp; done) | (go_simp; rfl)); intro gb409 hg w117 hbox hb; have n0_ := Aside0.mk (Kd.R_below (by (with_reducible repeat (first | apply Kd.R_alloc | apply Kd.R_drewN | apply Kd.R_drew)); exact HO_382000.out) hb); have n1_ := Aside0.mk (Kd.R_below (by (with_reducible repeat (first | apply Kd.R_alloc | apply Kd.R_drewN | apply Kd.R_drew)); exact HO_386000.out) hb); have n2_ := Aside0.mk (Kd.R_below (by (with_reducible repeat (first | apply Kd.R_alloc | apply Kd.R_drewN | apply Kd.R_drew)); exact HO_391000.out) hb); have n3_ := Aside0.mk (Kd.R_below (by (with_reducible repeat (first | apply Kd.R_alloc | apply Kd.R_drewN | apply Kd.R_drew)); exact HO404.out) hb); have n4_ := Aside0.mk (Kd.R_below (by (with_reducible repeat (first | apply Kd.R_alloc | apply Kd.R_drewN | apply Kd.R_drew)); exact HO407.out) hb); have n5_ := Aside0.mk (blk_below (g := gb372) (o := .cells #[.slice A0_0 l0_0.length c0_0] 24 (0, 0)) (by (with_reducible repeat (first | refine blk_drewN ?_ _ | refine blk_drew ?_ | refine blk_alloc ?_ _)); exact BK372.out) hb); have n6_ := Aside0.mk (blk_below (g := gb381) (o := .cells #[.slice Ao20 t377.length co20] 28 (0, 0)) (by (with_reducible repeat (first | refine blk_drewN ?_ _ | refine blk_drew ?_ | refine blk_alloc ?_ _)); exact BK381.out) hb); have n7_ := Aside0.mk (blk_below (g := gb385) (o := .cells #[.slice Ao26 t397.length co26] 28 (0, 0)) (by (with_reducible repeat (first | refine blk_drewN ?_ _ | refine blk_drew ?_ | refine blk_alloc ?_ _)); exact BK385.out) hb); have n8_ := Aside0.mk (blk_below (g := gb390) (o := .cells #[.slice Ao32 t386.length co32] 28 (0, 0)) (by (with_reducible repeat (first | refine blk_drewN ?_ _ | refine blk_drew ?_ | refine blk_alloc ?_ _)); exact BK390.out) hb); have n9_ := Aside0.mk (below_step (by repeat (first | (with_reducible first | exact HB.out | apply below_alloc | apply pw_below_drewN | apply below_drew1 | refine below_set ?_ GE372.out | refine below_set ?_ GE381.out | refine below_set ?_ GE385.out | refine below_set ?_ GE390.out) | exact HB.out)) hb); have n10_ := Aside0.mk (hbox); have n11_ := Aside0.mk ((by rw [hg]; exact (below_size (by repeat (first | (with_reducible first | exact HB.out | apply below_alloc | apply pw_below_drewN | apply below_drew1 | refine below_set ?_ GE372.out | refine below_set ?_ GE381.out | refine below_set ?_ GE385.out | refine below_set ?_ GE390.out) | exact HB.out))) : w.heap.size ≤ gb409)); have n12_ := Aside0.mk ((by rw [hg]; exact (below_size (by repeat (first | (with_reducible first | exact HB.out | apply below_alloc | apply pw_below_drewN | apply below_drew1 | refine below_set ?_ GE372.out | refine below_set ?_ GE381.out | refine below_set ?_ GE385.out | refine below_set ?_ GE390.out) | exact HB.out))) : w.heap.size ≤ gb409)); have n13_ := Aside0.mk ((by rw [hg]; exact Nat.ne_of_lt (blk_lt (g := gb372) (o := .cells #[.slice A0_0 l0_0.length c0_0] 24 (0, 0)) (by (with_reducible repeat (first | refine blk_drewN ?_ _ | refine blk_drew ?_ | refine blk_alloc ?_ _)); exact BK372.out)) : gb372 ≠ gb409)); have n14_ := Aside0.mk ((by rw [hg]; exact Nat.ne_of_gt (blk_lt (g := gb372) (o := .cells #[.slice A0_0 l0_0.length c0_0] 24 (0, 0)) (by (with_reducible repeat (first | refine blk_drewN ?_ _ | refine blk_drew ?_ | refine blk_alloc ?_ _)); exact BK372.out)) : gb409 ≠ gb372)); have n15_ := Aside0.mk ((by rw [hg]; exact Nat.ne_of_lt (blk_lt (g := gb381) (o := .cells #[.slice Ao20 t377.length co20] 28 (0, 0)) (by (with_reducible repeat (first | refine blk_drewN ?_ _ | refine blk_drew ?_ | refine blk_alloc ?_ _)); exact BK381.out)) : gb381 ≠ gb409)); have n16_ := Aside0.mk ((by rw [hg]; exact Nat.ne_of_gt (blk_lt (g := gb381) (o := .cells #[.slice Ao20 t377.length co20] 28 (0, 0)) (by (with_reducible repeat (first | refine blk_drewN ?_ _ | refine blk_drew ?_ | refine blk_alloc ?_ _)); exact BK381.out)) : gb409 ≠ gb381)); have n17_ := Aside0.mk ((by rw [hg]; exact Nat.ne_of_lt (blk_lt (g := gb385) (o := .cells #[.slice Ao26 t397.length co26] 28 (0, 0)) (by (with_reducible repeat (first | refine blk_drewN ?_ _ | refine blk_drew ?_ | refine blk_alloc ?_ _)); exact BK385.out)) : gb385 ≠ gb409)); have n18_ := Aside0.mk ((by rw [hg]; exact Nat.ne_of_gt (blk_lt (g := gb385) (o := .cells #[.slice Ao26 t397.length co26] 28 (0, 0)) (by (with_reducible repeat (first | refine blk_drewN ?_ _ | refine blk_drew ?_ | refine blk_alloc ?_ _)); exact BK385.out)) : gb409 ≠ gb385)); have n19_ := Aside0.mk ((by rw [hg]; exact Nat.ne_of_lt (blk_lt (g := gb390) (o := .cells #[.slice Ao32 t386.length co32] 28 (0, 0)) (by (with_reducible repeat (first | refine blk_drewN ?_ _ | refine blk_drew ?_ | refine blk_alloc ?_ _)); exact BK390.out)) : gb390 ≠ gb409)); have n20_ := Aside0.mk ((by rw [hg]; exact Nat.ne_of_gt (blk_lt (g := gb390) (o := .cells #[.slice Ao32 t386.length co32] 28 (0, 0)) (by (with_reducible repeat (first | refine blk_drewN ?_ _ | refine blk_drew ?_ | refine blk_alloc ?_ _)); exact BK390.out)) : gb409 ≠ gb390)); clear HO_382000; clear HO_386000; clear HO_391000; clear HO404; clear HO407; clear BK372; clear BK381; clear BK385; clear BK390; clear HB; have HO_382000 := n0_; have HO_386000 := n1_; have HO_391000 := n2_; have HO404 := n3_; have HO407 := n4_; have BK372 := n5_; have BK381 := n6_; have BK385 := n7_; have BK390 := n8_; have HB := n9_; have BK409 := n10_; have GW409 := n11_; have GE409 := n12_; have NB372_409 := n13_; have NB409_372 := n14_; have NB381_409 := n15_; have NB409_381 := n16_; have NB385_409 := n17_; have NB409_385 := n18_; have NB390_409 := n19_; have NB409_390 := n20_; clear n0_ n1_ n2_ n3_ n4_ n5_ n6_ n7_ n8_ n9_ n10_ n11_ n12_ n13_ n14_ n15_ n16_ n17_ n18_ n19_ n20_; clear hb hbox hg; obtain ⟨Ao118, co118, eo118⟩ := Kd.R_slice HO407.out; subst eo118; have hnb119 := NB409_372.out; have hnc119 := NB372_409.out; have hnb120 := NB409_381.out; have hnc120 := NB381_409.out; have hnb121 := NB409_385.out; have hnc121 := NB385_409.out; have hnb122 := NB409_390.out; have hnc122 := NB390_409.out; have hcz123_0 : w117.cell? ⟨gb409, 0, none⟩ = some (.slice none 0 0) := (blk_cell BK409.out 0).trans rfl; have hfz123_0 := blk_frozen BK409.out 0))
                      (try simp only [Act.put, List.setIfInBounds_toArray, List.set_cons_zero, List.set_cons_succ])
                      go_cut [87] (fun v87 wc => ∃ (kq : Nat) (x87_102 : Bool), v87 = .bool x87_102 ∧ Aside0 (laws_FnExactTurnTrie.j2 kq t399 x87_102 t400 = some true) ∧ Aside0 (kq ≤ kj59) ∧ Aside0 (Kd.R k62 62 wc w.heap.size (fun k_ => some k_ ≠ ((.slice Ao26 t397.length co26) : Value).ownBlock ∧ some k_ ≠ ((.slice Ao32 t386.length co32) : Value).ownBlock ∧ some k_ ≠ ((.slice Ao118 t405.length co118) : Value).ownBlock) (.slice Ao20 t377.length co20) t377) ∧ Aside0 (Kd.R k62 62 wc w.heap.size (fun k_ => some k_ ≠ ((.slice Ao20 t377.length co20) : Value).ownBlock ∧ some k_ ≠ ((.slice Ao32 t386.length co32) : Value).ownBlock ∧ some k_ ≠ ((.slice Ao118 t405.length co118) : Value).ownBlock) (.slice Ao26 t397.length co26) t397) ∧ Aside0 (Kd.R k62 62 wc w.heap.size (fun k_ => some k_ ≠ ((.slice Ao20 t377.length co20) : Value).ownBlock ∧ some k_ ≠ ((.slice Ao26 t397.length co26) : Value).ownBlock ∧ some k_ ≠ ((.slice Ao118 t405.length co118) : Value).ownBlock) (.slice Ao32 t386.length co32) t400) ∧ Aside0 (Kd.R k62 62 wc w.heap.size (fun k_ => some k_ ≠ ((.slice Ao20 t377.length co20) : Value).ownBlock ∧ some k_ ≠ ((.slice Ao26 t397.length co26) : Value).ownBlock ∧ some k_ ≠ ((.slice Ao32 t386.length co32) : Value).ownBlock) (.slice Ao118 t405.length co118) t405) ∧ Aside0 (wc.heap[gb372]? = some (.cells #[(.slice A0_0 l0_0.length c0_0)] 24 (0, 0))) ∧ Aside0 (wc.heap[gb381]? = some (.cells #[(.slice Ao20 t377.length co20)] 28 (0, 0))) ∧ Aside0 (wc.heap[gb385]? = some (.cells #[(.slice Ao26 t397.length co26)] 28 (0, 0))) ∧ Aside0 (wc.heap[gb390]? = some (.cells #[(.slice Ao32 t386.length co32)] 28 (0, 0))) ∧ Aside0 (wc.heap[gb409]? = some (.cells #[(.slice Ao118 t405.length co118)] 28 (0, 0))) ∧ Aside0 (Below w.heap.size w wc))
                      case first =>
                        have H := HC103.out
                        clear HC103
                        replace H := Option.bind_eq_some_iff.mp H
                        obtain ⟨t410, A1240, H⟩ := H
                        replace H : (if t410 = true then (laws_FnExactTurnTrie.j2 kj59 t399 (t408 != t380) t400) else (laws_FnExactTurnTrie.j2 kj59 t399 true t400)) = some true := H
                        have A124 := Aside0.mk A1240
                        clear A1240
                        by_cases c125 : t410 = true
                        · subst c125
                          have H1 : (laws_FnExactTurnTrie.j2 kj59 t399 (t408 != t380) t400) = some true := by rw [if_pos rfl] at H; exact H
                          clear H
                          have H := H1
                          clear H1
                          have H' := Aside0.mk H
                          clear H
                          have hnb126 := NB409_372.out
                          have hnc126 := NB372_409.out
                          have hnb127 := NB409_381.out
                          have hnc127 := NB381_409.out
                          have hnb128 := NB409_385.out
                          have hnc128 := NB385_409.out
                          have hnb129 := NB409_390.out
                          have hnc129 := NB390_409.out
                          have hcz130_0 : w117.cell? ⟨gb409, 0, none⟩ = some (.slice none 0 0) := (blk_cell BK409.out 0).trans rfl
                          have hfz130_0 := blk_frozen BK409.out 0
                          have hnb131 := NB381_372.out
                          have hnc131 := NB372_381.out
                          have hnb132 := NB381_385.out
                          have hnc132 := NB385_381.out
                          have hnb133 := NB381_390.out
                          have hnc133 := NB390_381.out
                          have hcz134_0 : w117.cell? ⟨gb381, 0, none⟩ = some (.slice Ao20 t377.length co20) := (blk_cell BK381.out 0).trans rfl
                          have hfz134_0 := blk_frozen BK381.out 0
                          go_wp2_with (first | ((with_reducible refine gate_callee (f := 10) rfl ?_); refine goesL_ (some 81) rfl rfl Tryz.func10 (by kernel_rfl) rfl #[.agg #[.slice Ao118 t405.length co118], .agg #[.slice Ao20 t377.length co20]] rfl (by (try simp only [List.map_toArray, List.map_cons, List.map_nil]); first | done | rfl | (simp only [List.length_drop, List.length_take]; rfl)) ?_; (with_reducible refine (laws_eqTrie.calls kj59 _ _ t405 _ _ t377 true _ ?side1 ?side2 ?side3 ?side4 A124.out).mono ?_); (case side1 => refine (Kd.R_reads' (e := 62) (base := w.heap.size) (ok := fun k_ => ((((True ∧ some k_ ≠ (.slice Ao20 t377.length co20 : Value).ownBlock) ∧ some k_ ≠ (.slice Ao26 t397.length co26 : Value).ownBlock) ∧ some k_ ≠ (.slice Ao32 t386.length co32 : Value).ownBlock) ∧ some k_ ≠ (.slice Ao115 t402.length co115 : Value).ownBlock)) (n := t405.length) (c := co118) ?_).2.2; exact (by (with_reducible repeat (first | apply Kd.R_alloc | apply Kd.R_drewN | apply Kd.R_drew)); exact (Kd.R_mono (R_same_ (Kd.R_far (p := ⟨gb409, 0, none⟩) (Kd.R_types HO407.out BK409.out (by decide)) (fun _ hk => hk.2) (.slice Ao118 t405.length co118)) rfl) (fun _ h_ => h_.1)))); (case side2 => exact (Kd.R_reads' HO407.out).2.1); (case side3 => refine (Kd.R_reads' (e := 62) (base := w.heap.size) (ok := fun k_ => (((some k_ ≠ (.slice Ao26 t397.length co26 : Value).ownBlock ∧ some k_ ≠ (.slice Ao32 t386.length co32 : Value).ownBlock) ∧ some k_ ≠ (.slice Ao115 t402.length co115 : Value).ownBlock) ∧ some k_ ≠ (.slice Ao118 t405.length co118 : Value).ownBlock)) (n := t377.length) (c := co20) ?_).2.2; exact (by (with_reducible repeat (first | apply Kd.R_alloc | apply Kd.R_drewN | apply Kd.R_drew)); exact (Kd.R_mono (R_same_ (Kd.R_far (p := ⟨gb409, 0, none⟩) (Kd.R_types HO_382000.out BK409.out (by decide)) (fun _ hk => hk.2) (.slice Ao118 t405.length co118)) rfl) (fun _ h_ => h_.1)))); (case side4 => exact (Kd.R_reads' HO_382000.out).2.1); rintro e w135 ⟨rfl, hb⟩; refine ⟨_, rfl, ?_⟩; have n0_ := Aside0.mk (Kd.R_below (by (with_reducible repeat (first | apply Kd.R_alloc | apply Kd.R_drewN | apply Kd.R_drew)); exact (Kd.R_mono (R_same_ (Kd.R_far (p := ⟨gb409, 0, none⟩) (Kd.R_types HO_382000.out BK409.out (by decide)) (fun _ hk => hk.2) (.slice Ao118 t405.length co118)) rfl) (fun _ h_ => h_.1))) hb); have n1_ := Aside0.mk (Kd.R_below (by (with_reducible repeat (first | apply Kd.R_alloc | apply Kd.R_drewN | apply Kd.R_drew)); exact (Kd.R_mono (R_same_ (Kd.R_far (p := ⟨gb409, 0, none⟩) (Kd.R_types HO_386000.out BK409.out (by decide)) (fun _ hk => hk.2) (.slice Ao118 t405.length co118)) rfl) (fun _ h_ => h_.1))) hb); have n2_ := Aside0.mk (Kd.R_below (by (with_reducible repeat (first | apply Kd.R_alloc | apply Kd.R_drewN | apply Kd.R_drew)); exact (Kd.R_mono (R_same_ (Kd.R_far (p := ⟨gb409, 0, none⟩) (Kd.R_types HO_391000.out BK409.out (by decide)) (fun _ hk => hk.2) (.slice Ao118 t405.length co118)) rfl) (fun _ h_ => h_.1))) hb); have n3_ := Aside0.mk (Kd.R_below (by (with_reducible repeat (first | apply Kd.R_alloc | apply Kd.R_drewN | apply Kd.R_drew)); exact (Kd.R_mono (R_same_ (Kd.R_far (p := ⟨gb409, 0, none⟩) (Kd.R_types HO404.out BK409.out (by decide)) (fun _ hk => hk.2) (.slice Ao118 t405.length co118)) rfl) (fun _ h_ => h_.1))) hb); have n4_ := Aside0.mk (Kd.R_below (by (with_reducible repeat (first | apply Kd.R_alloc | apply Kd.R_drewN | apply Kd.R_drew)); exact (Kd.R_mono (R_same_ (Kd.R_far (p := ⟨gb409, 0, none⟩) (Kd.R_types HO407.out BK409.out (by decide)) (fun _ hk => hk.2) (.slice Ao118 t405.length co118)) rfl) (fun _ h_ => h_.1))) hb); have n5_ := Aside0.mk (blk_below (g := gb372) (o := .cells #[.slice A0_0 l0_0.length c0_0] 24 (0, 0)) (by (with_reducible repeat (first | refine blk_drewN ?_ _ | refine blk_drew ?_ | refine blk_alloc ?_ _)); refine blk_far ?_ NB372_409.out _; (with_reducible repeat (first | refine blk_drewN ?_ _ | refine blk_drew ?_ | refine blk_alloc ?_ _)); exact BK372.out) hb); have n6_ := Aside0.mk (blk_below (g := gb381) (o := .cells #[.slice Ao20 t377.length co20] 28 (0, 0)) (by (with_reducible repeat (first | refine blk_drewN ?_ _ | refine blk_drew ?_ | refine blk_alloc ?_ _)); refine blk_far ?_ NB381_409.out _; (with_reducible repeat (first | refine blk_drewN ?_ _ | refine blk_drew ?_ | refine blk_alloc ?_ _)); exact BK381.out) hb); have n7_ := Aside0.mk (blk_below (g := gb385) (o := .cells #[.slice Ao26 t397.length co26] 28 (0, 0)) (by (with_reducible repeat (first | refine blk_drewN ?_ _ | refine blk_drew ?_ | refine blk_alloc ?_ _)); refine blk_far ?_ NB385_409.out _; (with_reducible repeat (first | refine blk_drewN ?_ _ | refine blk_drew ?_ | refine blk_alloc ?_ _)); exact BK385.out) hb); have n8_ := Aside0.mk (blk_below (g := gb390) (o := .cells #[.slice Ao32 t386.length co32] 28 (0, 0)) (by (with_reducible repeat (first | refine blk_drewN ?_ _ | refine blk_drew ?_ | refine blk_alloc ?_ _)); refine blk_far ?_ NB390_409.out _; (with_reducible repeat (first | refine blk_drewN ?_ _ | refine blk_drew ?_ | refine blk_alloc ?_ _)); exact BK390.out) hb); have n9_ := Aside0.mk (blk_below (g := gb409) (o := .cells #[.slice Ao118 t405.length co118] 28 (0, 0)) (by (with_reducible repeat (first | refine blk_drewN ?_ _ | refine blk_drew ?_ | refine blk_alloc ?_ _)); refine blk_put (cs := #[.slice none 0 0]) ?_ 0 _ rfl; (with_reducible repeat (first | refine blk_drewN ?_ _ | refine blk_drew ?_ | refine blk_alloc ?_ _)); exact BK409.out) hb); have n10_ := Aside0.mk (below_step (by repeat (first | (with_reducible first | exact HB.out | apply below_alloc | apply pw_below_drewN | apply below_drew1 | refine below_set ?_ GE372.out | refine below_set ?_ GE381.out | refine below_set ?_ GE385.out | refine below_set ?_ GE390.out | refine below_set ?_ GE409.out) | exact HB.out)) hb); clear HO_382000; clear HO_386000; clear HO_391000; clear HO404; clear HO407; clear BK372; clear BK381; clear BK385; clear BK390; clear BK409; clear HB; have HO_382000 := n0_; have HO_386000 := n1_; have HO_391000 := n2_; have HO404 := n3_; have HO407 := n4_; have BK372 := n5_; have BK381 := n6_; have BK385 := n7_; have BK390 := n8_; have BK409 := n9_; have HB := n10_; clear n0_ n1_ n2_ n3_ n4_ n5_ n6_ n7_ n8_ n9_ n10_; (try clear hb); (try clear hb2); (try clear hk); (try clear hi)))
                          go_meet
                          case rel => exact ⟨_, ((t408 != t380)), (by first | rfl | (simp; done) | (simp [*]; done)), H', ⟨by have := HJ10.out; have := HJ59.out; first | omega | exact Nat.le_refl _⟩, ⟨by (try simp only [hl386000_59]); (with_reducible repeat (first | apply Kd.R_alloc | apply Kd.R_drewN | apply Kd.R_drew)); exact Kd.R_mono HO_382000.out (fun _ hk => ⟨hk.1.1.1, ⟨hk.1.1.2, hk.2⟩⟩)⟩, ⟨by (try simp only [hl386000_59]); (with_reducible repeat (first | apply Kd.R_alloc | apply Kd.R_drewN | apply Kd.R_drew)); exact Kd.R_mono HO_386000.out (fun _ hk => ⟨hk.1.1.1, ⟨hk.1.1.2, hk.2⟩⟩)⟩, ⟨by (try simp only [hl386000_59]); (with_reducible repeat (first | apply Kd.R_alloc | apply Kd.R_drewN | apply Kd.R_drew)); exact Kd.R_mono HO_391000.out (fun _ hk => ⟨hk.1.1.1, ⟨hk.1.1.2, hk.2⟩⟩)⟩, ⟨by (try simp only [hl386000_59]); (with_reducible repeat (first | apply Kd.R_alloc | apply Kd.R_drewN | apply Kd.R_drew)); exact Kd.R_mono HO407.out (fun _ hk => ⟨hk.1.1.1.2, ⟨hk.1.1.2, hk.1.2⟩⟩)⟩, ⟨by (try simp only [hl386000_59]); (with_reducible repeat (first | refine blk_drewN ?_ _ | refine blk_drew ?_ | refine blk_alloc ?_ _)); exact BK372.out⟩, ⟨by (try simp only [hl386000_59]); (with_reducible repeat (first | refine blk_drewN ?_ _ | refine blk_drew ?_ | refine blk_alloc ?_ _)); exact BK381.out⟩, ⟨by (try simp only [hl386000_59]); (with_reducible repeat (first | refine blk_drewN ?_ _ | refine blk_drew ?_ | refine blk_alloc ?_ _)); exact BK385.out⟩, ⟨by (try simp only [hl386000_59]); (with_reducible repeat (first | refine blk_drewN ?_ _ | refine blk_drew ?_ | refine blk_alloc ?_ _)); exact BK390.out⟩, ⟨by (try simp only [hl386000_59]); (with_reducible repeat (first | refine blk_drewN ?_ _ | refine blk_drew ?_ | refine blk_alloc ?_ _)); exact BK409.out⟩, ⟨by repeat (first | (with_reducible first | exact HB.out | apply below_alloc | apply pw_below_drewN | apply below_drew1 | refine below_set ?_ GE372.out | refine below_set ?_ GE381.out | refine below_set ?_ GE385.out | refine below_set ?_ GE390.out | refine below_set ?_ GE409.out) | exact HB.out)⟩⟩
                        · replace c125 := Bool.eq_false_iff.mpr c125
                          subst c125
                          have H1 : (laws_FnExactTurnTrie.j2 kj59 t399 true t400) = some true := by rw [if_neg (show ¬ (false = true) by decide)] at H; exact H
                          exact absurd H1 (by cases kj59 <;> simp [laws_FnExactTurnTrie.j2])
                      case rest =>
                        clear HC103
                        try clear c1
                        try clear c2
                        try clear p2
                        try clear c3
                        try clear c3b0
                        try clear c4
                        try clear c5
                        try clear c6
                        try clear c7
                        try clear c8
                        try clear c9
                        try clear c10
                        try clear c11
                        try clear c12
                        try clear c13
                        try clear c14
                        try clear c21
                        try clear c27
                        try clear c28
                        try clear c33
                        try clear c34
                        try clear c35
                        try clear c38
                        try clear c39
                        try clear c40
                        try clear c41
                        try clear c43
                        try clear c44
                        try clear c47
                        try clear c48
                        try clear c49
                        try clear c51
                        try clear c52
                        try clear c55
                        try clear c58
                        try clear c65
                        try clear c66
                        try clear c67
                        try clear c70
                        try clear c70b0
                        try clear c72
                        try clear c73
                        try clear c74
                        try clear c75
                        try clear c77
                        try clear c78
                        try clear c81
                        try clear c82
                        try clear c83
                        try clear c85
                        try clear c86
                        try clear c89
                        try clear c92
                        try clear c92b0
                        try clear c93
                        try clear c94
                        try clear c95
                        try clear c100
                        try clear c100b0
                        try clear c100b1
                        try clear c104
                        try clear c105
                        try clear c106
                        try clear c111
                        try clear c112
                        try clear c119
                        try clear c120
                        try clear c121
                        try clear c122
                        try clear c125
                        try clear c126
                        try clear c127
                        try clear c128
                        try clear c129
                        try clear c131
                        try clear c132
                        try clear c133
                        try clear c136
                        try clear c137
                        try clear c138
                        try clear c139
                        try clear c141
                        try clear c142
                        try clear c143
                        try clear hcz107_0
                        try clear hcz109_0
                        try clear hcz113_0
                        try clear hcz123_0
                        try clear hcz130_0
                        try clear hcz134_0
                        try clear hcz13_0
                        try clear hcz140_0
                        try clear hcz144_0
                        try clear hcz15_0
                        try clear hcz22_0
                        try clear hcz23_0
                        try clear hcz29_0
                        try clear hcz36_0
                        try clear hcz42_0
                        try clear hcz45_0
                        try clear hcz50_0
                        try clear hcz53_0
                        try clear hcz5_0
                        try clear hcz68_0
                        try clear hcz76_0
                        try clear hcz79_0
                        try clear hcz84_0
                        try clear hcz87_0
                        try clear hcz96_0
                        try clear hcz98_0
                        try clear hfz107_0
                        try clear hfz109_0
                        try clear hfz113_0
                        try clear hfz123_0
                        try clear hfz130_0
                        try clear hfz134_0
                        try clear hfz13_0
                        try clear hfz140_0
                        try clear hfz144_0
                        try clear hfz15_0
                        try clear hfz22_0
                        try clear hfz23_0
                        try clear hfz29_0
                        try clear hfz36_0
                        try clear hfz42_0
                        try clear hfz45_0
                        try clear hfz50_0
                        try clear hfz53_0
                        try clear hfz5_0
                        try clear hfz68_0
                        try clear hfz76_0
                        try clear hfz79_0
                        try clear hfz84_0
                        try clear hfz87_0
                        try clear hfz96_0
                        try clear hfz98_0
                        try clear p2
                        obtain ⟨kq, x87_102, rfl, HA, HJ102, HO_382000, HO_386000, HO_391000, HO_410000, BK372, BK381, BK385, BK390, BK409, HB⟩ := hcut
                        have hl391000_102 := (Kd.R_reads' HO_391000.out).1
                        rw [hl391000_102] at HO_391000
                        (try simp only [hl391000_102])
                        (try simp only [hl391000_102] at BK372)
                        (try simp only [hl391000_102] at BK381)
                        (try simp only [hl391000_102] at BK385)
                        (try simp only [hl391000_102] at BK390)
                        (try simp only [hl391000_102] at BK409)
                        (try simp only [hl391000_102] at HO_382000)
                        (try simp only [hl391000_102] at HO_386000)
                        (try simp only [hl391000_102] at HO_410000)
                        cases kq with
                        | zero => exact absurd HA.out (by simp [laws_FnExactTurnTrie.j2])
                        | succ kj102 =>
                          have H := HA.out
                          clear HA
                          simp only [laws_FnExactTurnTrie.j2] at H
                          by_cases c146 : x87_102 = true
                          · subst c146
                            have H1 : (some false) = some true := by rw [if_pos rfl] at H; exact H
                            exact absurd H1 (by simp)
                          · replace c146 := Bool.eq_false_iff.mpr c146
                            subst c146
                            have H1 : ((laws_heldTrie.f kj102 t400 1).bind fun t411 => (if t411 < 0 then (some false) else (if t411 = t399 then (some true) else (some false)))) = some true := by rw [if_neg (show ¬ (false = true) by decide)] at H; exact H
                            clear H
                            have H := H1
                            clear H1
                            replace H := Option.bind_eq_some_iff.mp H
                            obtain ⟨t411, A1470, H⟩ := H
                            replace H : (if t411 < 0 then (some false) else (if t411 = t399 then (some true) else (some false))) = some true := H
                            have A147 := Aside0.mk A1470
                            clear A1470
                            by_cases c148 : t411 < 0
                            · rw [if_pos c148] at H
                              exact absurd H (by simp)
                            · rw [if_neg c148] at H
                              have c148b0 : decide (t411 < 0) = false := decide_eq_false c148
                              clear c148
                              by_cases c155 : t411 = t399
                              · rw [if_pos c155] at H
                                have c155b0 : (t411 == t399) = true := beq_iff_eq.mpr c155
                                have c155b1 : (t411 != t399) = false := bne_eq_false_iff_eq.mpr c155
                                clear c155
                                (first | (obtain rfl := Option.some.inj H) | (have hH_ := Option.some.inj H; try simp only [hH_]))
                                have hnb156 := NB390_372.out
                                have hnc156 := NB372_390.out
                                have hnb157 := NB390_381.out
                                have hnc157 := NB381_390.out
                                have hnb158 := NB390_385.out
                                have hnc158 := NB385_390.out
                                have hnb159 := NB390_409.out
                                have hnc159 := NB409_390.out
                                have hcz160_0 : wc.cell? ⟨gb390, 0, none⟩ = some (.slice Ao32 t400.length co32) := (blk_cell BK390.out 0).trans rfl
                                have hfz160_0 := blk_frozen BK390.out 0
                                go_wp2_with (first | ((with_reducible refine gate_callee (f := 12) rfl ?_); refine goesL_ (some 90) rfl rfl Tryz.func12 (by kernel_rfl) rfl #[.agg #[.slice Ao32 t400.length co32], .int .i64 1] rfl (by (try simp only [List.map_toArray, List.map_cons, List.map_nil]); first | done | rfl | (simp only [List.length_drop, List.length_take]; rfl)) ?_; (with_reducible refine (laws_heldTrie.calls kj102 _ _ t400 1 t411 _ ?side1 ?side2 A147.out).mono ?_); (case side1 => repeat (first | exact (Kd.R_reads' HO_391000.out).2.2 | (with_reducible refine Kd.C_alloc ?_ _) | (with_reducible refine Kd.C_drewN ?_ _) | (with_reducible refine Kd.C_drew ?_))); (case side2 => exact (Kd.R_reads' HO_391000.out).2.1); rintro e w161 ⟨rfl, hb⟩; refine ⟨_, rfl, ?_⟩; have n0_ := Aside0.mk (Kd.R_below (by (with_reducible repeat (first | apply Kd.R_alloc | apply Kd.R_drewN | apply Kd.R_drew)); exact HO_382000.out) hb); have n1_ := Aside0.mk (Kd.R_below (by (with_reducible repeat (first | apply Kd.R_alloc | apply Kd.R_drewN | apply Kd.R_drew)); exact HO_386000.out) hb); have n2_ := Aside0.mk (Kd.R_below (by (with_reducible repeat (first | apply Kd.R_alloc | apply Kd.R_drewN | apply Kd.R_drew)); exact HO_391000.out) hb); have n3_ := Aside0.mk (Kd.R_below (by (with_reducible repeat (first | apply Kd.R_alloc | apply Kd.R_drewN | apply Kd.R_drew)); exact HO_410000.out) hb); have n4_ := Aside0.mk (blk_below (g := gb372) (o := .cells #[.slice A0_0 l0_0.length c0_0] 24 (0, 0)) (by (with_reducible repeat (first | refine blk_drewN ?_ _ | refine blk_drew ?_ | refine blk_alloc ?_ _)); exact BK372.out) hb); have n5_ := Aside0.mk (blk_below (g := gb381) (o := .cells #[.slice Ao20 t377.length co20] 28 (0, 0)) (by (with_reducible repeat (first | refine blk_drewN ?_ _ | refine blk_drew ?_ | refine blk_alloc ?_ _)); exact BK381.out) hb); have n6_ := Aside0.mk (blk_below (g := gb385) (o := .cells #[.slice Ao26 t397.length co26] 28 (0, 0)) (by (with_reducible repeat (first | refine blk_drewN ?_ _ | refine blk_drew ?_ | refine blk_alloc ?_ _)); exact BK385.out) hb); have n7_ := Aside0.mk (blk_below (g := gb390) (o := .cells #[.slice Ao32 t400.length co32] 28 (0, 0)) (by (with_reducible repeat (first | refine blk_drewN ?_ _ | refine blk_drew ?_ | refine blk_alloc ?_ _)); exact BK390.out) hb); have n8_ := Aside0.mk (blk_below (g := gb409) (o := .cells #[.slice Ao118 t405.length co118] 28 (0, 0)) (by (with_reducible repeat (first | refine blk_drewN ?_ _ | refine blk_drew ?_ | refine blk_alloc ?_ _)); exact BK409.out) hb); have n9_ := Aside0.mk (below_step (by repeat (first | (with_reducible first | exact HB.out | apply below_alloc | apply pw_below_drewN | apply below_drew1 | refine below_set ?_ GE372.out | refine below_set ?_ GE381.out | refine below_set ?_ GE385.out | refine below_set ?_ GE390.out | refine below_set ?_ GE409.out) | exact HB.out)) hb); clear HO_382000; clear HO_386000; clear HO_391000; clear HO_410000; clear BK372; clear BK381; clear BK385; clear BK390; clear BK409; clear HB; have HO_382000 := n0_; have HO_386000 := n1_; have HO_391000 := n2_; have HO_410000 := n3_; have BK372 := n4_; have BK381 := n5_; have BK385 := n6_; have BK390 := n7_; have BK409 := n8_; have HB := n9_; clear n0_ n1_ n2_ n3_ n4_ n5_ n6_ n7_ n8_ n9_; (try clear hb); (try clear hb2); (try clear hk); (try clear hi)))
                                go_ret
                                exact ⟨by first | rfl | (simp [errW_none, errW_some] <;> rfl) | (simp [*, errW_none, errW_some] <;> rfl), by repeat (first | (with_reducible first | exact HB.out | apply below_alloc | apply pw_below_drewN | apply below_drew1 | refine below_set ?_ GE372.out | refine below_set ?_ GE381.out | refine below_set ?_ GE385.out | refine below_set ?_ GE390.out | refine below_set ?_ GE409.out) | exact HB.out)⟩
                              · rw [if_neg c155] at H
                                exact absurd H (by simp)
                    · rw [if_neg c100] at H
                      exact absurd H (by simp)
          · replace c58 := Bool.eq_false_iff.mpr c58
            subst c58
            have H1 : (some false) = some true := by rw [if_neg (show ¬ (false = true) by decide)] at H; exact H
            exact absurd H1 (by simp)
end Go.Proofs.YtefcbnlljpdjnaaGreatDoor.Q
namespace Go.Proofs.YtefcbnlljpdjnaaGreatDoor.Q
open Go.RowKit Go.Proofs.YtefcbnlljpdjnaaGreatDoorW.PrintWords Go.Proofs.YtefcbnlljpdjnaaGreatDoorW.PrintLast
theorem turned_l0 (x : ByteArray) (h12 : x.size ≤ 12) : ∀ (n i : Nat), i + n = x.size → Ev (fun k => spec_l5Turned.l0 k x (pw ((lw x).take i).reverse) (i : Int)) (turnB x) := by
  have hl := lw_length x
  intro n
  induction n with
  | zero =>
    intro i h
    refine Ev.succ ?_
    simp only [spec_l5Turned.l0]
    rw [List.take_of_length_le (by omega)]
    exact Ev.neg (by omega) (Ev.pure _)
  | succ n ih =>
    intro i h
    have hi : i < (lw x).length := by omega
    have e : x.extract i (i + 1) ++ pw ((lw x).take i).reverse = pw ((lw x).take (i + 1)).reverse := by
      apply lw_inj
      rw [lw_app, lw_pw, lw_pw, List.take_succ_eq_append_getElem hi, List.reverse_append]
      congr 1
      unfold lw
      rw [ByteArray.data_extract, Array.toList_extract, List.extract_eq_take_drop]
      show ((lw x).drop i).take (i + 1 - i) = _
      rw [List.drop_eq_getElem_cons hi, show i + 1 - i = 1 by omega]
      rfl
    have hz : (x.extract i (i + 1)).size + (pw ((lw x).take i).reverse).size ≤ 9223372036854775807 := by
      have : (pw ((lw x).take i).reverse).size = (((lw x).take i).reverse).length := by rw [← lw_length, lw_pw]
      rw [this, List.length_reverse, List.length_take, ByteArray.size_extract]
      omega
    refine Ev.succ ?_
    simp only [spec_l5Turned.l0]
    rw [wnext i (by omega), Int.toNat_natCast, Int.toNat_natCast, e]
    exact Ev.pos (by omega) (Ev.pos (by omega) (Ev.pos (by omega) (Ev.pos (by omega) (Ev.pos hz (ih (i + 1) (by omega))))))
theorem turned_ev (x : ByteArray) (h12 : x.size ≤ 12) : Ev (fun k => spec_l5Turned.f k x) (turnB x) := by
  unfold spec_l5Turned.f
  exact turned_l0 x h12 x.size 0 (by omega)
theorem turn_l0 (ws : List ByteArray) (hl : ws.length ≤ 40) (hz : ∀ x ∈ ws, x.size ≤ 12) : ∀ (n i : Nat), i + n = ws.length → Ev (fun k => spec_TurnTrie.l0 k ((ws.take i).map turnB) ws (i : Int)) (madeW (ws.map turnB)) := by
  intro n
  induction n with
  | zero =>
    intro i h
    refine Ev.succ ?_
    simp only [spec_TurnTrie.l0]
    rw [List.take_of_length_le (by omega)]
    exact Ev.neg (by omega) (Ev.bind (spec5 _ (by rw [List.length_map]; omega)) (Ev.pure _))
  | succ n ih =>
    intro i h
    have hi : i < ws.length := by omega
    have ht : ((ws.take i).map turnB).length ≤ 40 := by rw [List.length_map, List.length_take]; omega
    refine Ev.succ ?_
    simp only [spec_TurnTrie.l0]
    rw [wnext i (by omega), rd_nat ws hi]
    refine Ev.pos (by omega) (Ev.pos (by omega) (Ev.bind (turned_ev _ (hz _ (List.getElem_mem hi))) (Ev.pos (by omega) ?_)))
    have := ih (i + 1) (by omega)
    rwa [List.take_succ_eq_append_getElem hi, List.map_append] at this
theorem both_TurnTrie (l : List IN) : ∃ r, Ev (fun k => spec_TurnTrie.f k l) r ∧ Ev (fun _ => impl_TurnTrie.f l) r ∧ r.1.length ≤ 1048576 := by
  unfold spec_TurnTrie.f impl_TurnTrie.f mappedW
  rcases trie_cases l with hf | ⟨ws, hv, rfl, ht⟩
  · rw [hf]
    exact ⟨([], false), Ev.bind (specT l hf) (Ev.neg (by decide) (Ev.pure _)), Ev.pure _, by decide⟩
  · have h3 := hv.len
    rw [ht, wordsV_trie hv]
    exact ⟨madeW (ws.map turnB), Ev.bind (specT _ ht) (Ev.pos rfl (Ev.bind (specWords hv) (turn_l0 ws (by omega) (fun x hx => (hv.ok x hx).1) ws.length 0 (by omega)))), Ev.pure _, madeW_le _⟩
theorem pure_FnExactTurnTrie (l0 : List LN) (hl_l0 : l0.length ≤ maxLen) (hI_l0 : ∀ x ∈ l0, I64 x.f0 ∧ I64 x.f1) : ∃ k, laws_FnExactTurnTrie.f k l0 = some true := by
  refine Ev.ex ?_
  unfold laws_FnExactTurnTrie.f
  by_cases h_l0 : l0.length ≤ 1048576
  case neg => exact Ev.bindc (szTrie_eq l0 (by unfold maxLen at hl_l0; omega)) (by rw [if_neg h_l0]; exact Ev.pos (by decide) (Ev.pure _))
  refine Ev.bindc (szTrie_eq l0 (by unfold maxLen at hl_l0; omega)) ?_
  rw [if_pos h_l0]
  refine Ev.neg (by omega) ?_
  have ht_l0 := toTrie_ev l0 (by omega)
  have hc_l0 : (cv l0).length ≤ 1048576 := by rw [cv_length]; omega
  obtain ⟨r, e1, e2, hr⟩ := both_TurnTrie (cv l0)
  have hq := eqTrie_ev r.1 r.1 hr
  refine (Ev.bind ht_l0 (Ev.bind e1 (Ev.bind ht_l0 (Ev.bind e2 (Ev.bind hq (Ev.pos (by simp) (Ev.succ ?_)))))))
  simp only [laws_FnExactTurnTrie.j0]
  obtain ⟨m, hm⟩ := markTrie_ev (cv l0) hc_l0
  refine Ev.neg (by simp) (Ev.bind ht_l0 (Ev.bind (eqTrie_ev _ _ hc_l0) (Ev.pos (by simp) (Ev.bind hm (Ev.neg (by simp only; omega) (Ev.bind hq (Ev.pos (by simp) (Ev.succ ?_))))))))
  simp only [laws_FnExactTurnTrie.j1]
  obtain ⟨ms, hs1, hs2⟩ := markH_ev r.1 hr
  refine Ev.neg (by simp) (Ev.bind hs1 (Ev.bind hs2 (Ev.neg (by omega) (Ev.pos rfl (Ev.bind ht_l0 (Ev.bind e2 (Ev.bind hq (Ev.pos (by simp) (Ev.succ ?_)))))))))
  simp only [laws_FnExactTurnTrie.j2]
  exact Ev.neg (by simp) (Ev.bind hs2 (Ev.neg (by omega) (Ev.pos rfl (Ev.pure _))))
end Go.Proofs.YtefcbnlljpdjnaaGreatDoor.Q
namespace Go.Proofs.YtefcbnlljpdjnaaGreatDoor.Pure
theorem FnExactTurnTrie (l0 : List Q.LN) (hl_l0 : l0.length ≤ maxLen) (hI_l0 : ∀ x ∈ l0, Q.I64 x.f0 ∧ Q.I64 x.f1) : ∃ k, Q.laws_FnExactTurnTrie.f k l0 = some true := Q.pure_FnExactTurnTrie l0 hl_l0 hI_l0
end Go.Proofs.YtefcbnlljpdjnaaGreatDoor.Pure
namespace Go.Proofs.YtefcbnlljpdjnaaGreatDoor.fnExactTurnTrie
open Go.ChangeShapes Go.WideShapes Go.ChangeAt Go.RowKit
open Go.ChangeMaps (open_string shut_string)
set_option linter.unusedVariables false
theorem own : ownKnob Tryz.prog.godebug = none := by kernel_rfl
theorem laidOut : laidOutB Tryz.prog = true := by kernel_rfl
set_option maxRecDepth 100000 in
theorem lifted (os : Os) (started : os.Started) (H : Type) (enc : TypeId × Value → H) :
    ReturnsInHanded {} Tryz.checked os 3 .any (fun w args => (Rows.fnExactTurnTrieSpec.pre enc Tryz.prog Tryz.f3 Rows.fnExactTurnTrieRow.domain false w args ∧ laidMetH Tryz.prog Rows.fnExactTurnTrieRow.laid w) ∧ sizedMet enc Tryz.prog Tryz.f3 (OpenSpec.ofChange Rows.fnExactTurnTrieSpec) false w args) (Rows.fnExactTurnTrieSpec.post enc Tryz.prog Tryz.f3 false true false false) := by
  refine returnsInHanded_of_change_and (C := Tryz.checked) (X := fun w _ => laidMetH Tryz.prog Rows.fnExactTurnTrieRow.laid w) (fun _ _ _ hh h => h.of_heap hh) own started (by kernel_rfl) Tryz.func3
    (ChangeSpec.witness_shaped (enc := enc) (C := Tryz.checked) (os := os) (X := fun w _ => laidMetH Tryz.prog Rows.fnExactTurnTrieRow.laid w) false (World.laidAll Tryz.prog os Rows.fnExactTurnTrieRow.laid) #[.agg #[.slice none 0 0]] 8 (World.laidAll_os _ _ _)
      (World.shaped_of_ZipB (by kernel_rfl) (by kernel_rfl)) (by kernel_rfl) (by kernel_rfl) (by kernel_rfl)
      (by rw [MakeChecks.laidMetH_plain _ _ _ (by kernel_rfl)]; exact laidMet_laidAll _ (by kernel_rfl) (by kernel_rfl))) ?_
  intro W base args ds gs before hval0 hW hcnd hsz0 hL _
  have hsz : (DataW.weightsEach Tryz.prog (Tryz.f3.params.toList ++ Rows.fnExactTurnTrieSpec.plain.varTypes Tryz.prog) (ds ++ gs)).all (· ≤ reachBytes) = true := hsz0
  have hval : ∀ (j : Nat) t v, Tryz.f3.params[j]? = some t → args[j]? = some v → Value.okWide Tryz.prog W .any base t v := hval0
  have hW' := hW
  obtain ⟨p, q, hA0, hV, rfl, hfz, hnd⟩ := hW
  have hA : DataW.TrodAll enc Tryz.prog W 0 (fun _ => true) true Tryz.f3.params.toList args.toList ds p := hA0
  rw [Tryz.params3] at hA hval hsz
  obtain ⟨v0, vs0, d0, ds0, p0, q0, hargs, rfl, rfl, h0, r0⟩ := trodAll_cons hA
  obtain ⟨rfl, rfl, rfl⟩ := trodAll_nil r0
  obtain rfl : args = #[v0] := by cases args; simp_all
  obtain ⟨rfl, rfl⟩ := trodVars_none hV
  have k0 := h0
  have lt0 : ∀ x ∈ p0, x.block < W.heap.size := by obtain ⟨m, hm⟩ := k0; exact DataW.trod_lt m _ _ _ hm
  obtain ⟨A0, c0, l0, rfl, hC0, hc0, hl0, hI0⟩ := Q.open_trie (hval 0 24 v0 rfl rfl) h0
  clear hA0 hval0 hsz0 hsz
  obtain ⟨k, hk⟩ := Pure.FnExactTurnTrie l0 hl0 hI0
  refine (Q.laws_FnExactTurnTrie.calls k A0 c0 l0 true W hC0 hc0 hk).mono fun e W' ⟨he, bel0⟩ => ?_
  have bel : Below W.heap.size W W' := bel0
  subst he
  exact ⟨_, rfl, _, _, _, [], _, [], hW', trodAll_mk1 (shut_bool Tryz.underlying4 _), (trodAll_cons_mk (Below.trod laidOut (by kernel_rfl) (of_decide_eq_true (by kernel_rfl)) k0 bel lt0) trodAll_mk0), rfl, bel.frame _, fun h => by cases h⟩
theorem over : Rows.fnExactTurnTrieRow.holds Tryz.pinned (OpenSpec.ofChange Rows.fnExactTurnTrieSpec) :=
  OpenClaim.holds_of_wide 3 Tryz.f3 rfl rfl rfl rfl rfl rfl rfl ⟨rfl, rfl, rfl, rfl, rfl⟩ rfl rfl rfl rfl rfl (by kernel_rfl) Tryz.func3 (by kernel_rfl)
    (of_decide_eq_true (by kernel_rfl)) (by unfold Func.isWrapper; first | (rw [if_pos (by decide +kernel)]; kernel_rfl) | (rw [if_neg (by decide +kernel)]; exact ⟨rfl, rfl⟩))
    (fun os started H enc _ => lifted os started H enc)
set_option maxRecDepth 100000 in
theorem proved : Rows.FnExactTurnTrieCardSaid :=
  Claim7.holds_tied_plain_at .later [] [.data, .pinned] true (true, "6b8353d06ecac803d49d21f5983bb8e9aa25372ea54b269b575486237e4dda9a") false over (fun _ h => by cases h) (by kernel_rfl) (fun _ h => by cases h) fnExactTurnTrie_row_tie rfl ⟨rfl, rfl⟩ (by kernel_rfl) rfl
    (fun f fn hf hfn => by
      obtain rfl : f = 3 := Option.some.inj ((show Tryz.prog.funcNamed Tryz.f3.name = some 3 by kernel_rfl).symm.trans hf) |>.symm
      obtain rfl : fn = Tryz.f3 := (Option.some.inj (Tryz.func3.symm.trans hfn)).symm
      exact ⟨by kernel_rfl, fun j t ht => by
        rw [Tryz.params3] at ht
        have hm : t ∈ [24] := by simpa using Array.mem_of_getElem? ht
        have hall : ([24].all fun u => !Tryz.prog.wantsStandIn u) = true := by kernel_rfl
        exact (show Tryz.prog.wantsStandIn t = false by simpa using List.all_eq_true.1 hall t hm)⟩)
    (by kernel_rfl)
end Go.Proofs.YtefcbnlljpdjnaaGreatDoor.fnExactTurnTrie
namespace Go.Proofs.YtefcbnlljpdjnaaGreatDoor
theorem fnExactTurnTrie_holds : Rows.FnExactTurnTrieCardSaid := fnExactTurnTrie.proved
end Go.Proofs.YtefcbnlljpdjnaaGreatDoor
