/- The law FnExactCloseTrie: for every input the call answers true and leaves its arguments as they were. -/
import Derived.Test.YtefcbnlljpdjnaaDoorB0
import Derived.Test.YtefcbnlljpdjnaaDoorB1
import Derived.Test.YtefcbnlljpdjnaaDoorB2
import Derived.Test.YtefcbnlljpdjnaaDoorB3
import Derived.Test.YtefcbnlljpdjnaaDoorB4
import Derived.Test.YtefcbnlljpdjnaaDoorB5
import Derived.Test.YtefcbnlljpdjnaaDoorB6
import Derived.Test.YtefcbnlljpdjnaaDoorProg
import Derived.Below
import Derived.Deep.Draws
import Derived.Deep.AppendLies
import Derived.Maps.AppendAt
import Derived.OwnWalk
import Derived.Laws.BytesArg
import Derived.Laws.MakeOwn
import Derived.Laws.OwnMore
import Derived.Deep.OwnRows
import Derived.Tactics
import Derived.Lib.ConvBytes
import Derived.Laws.Slices
import Derived.WalkKit
import Derived.KernelRfl
import Derived.RowKit3
import Derived.Deep.LoopGhost
import Derived.Deep.QuietTactic
import Derived.BigQuiet
import Derived.WideLaws
import Derived.Deep.DeepCutAuto
import Derived.Deep.CutBlock
import Derived.Deep.RegionHeld3
import Derived.Laws.Rows
import Derived.Lib.AppendStr
import Derived.ArgAppend
import Derived.Laws.IdiomCopy
import Derived.OrdersHeld
import Derived.Laws.BitsLemmas
import Derived.RowKit
import Derived.Shelf.Strings.SlTrimAscii
import Derived.Ground.NamesProg
import Derived.Ground.SlgfProg
import Derived.Lib.SlicesCompact
import Derived.Maps.Own
import Derived.StringKeys
import Derived.Maps.OwnOps
import Derived.Maps.OwnSet
import Derived.Maps.Views
import Derived.Laws.AppendOwn
import Derived.Deep.DrawnRows
import Derived.Shelf.Sort.Plain
import Derived.Shelf.Slices.CompactS
import Derived.Shelf.Slices.In.SortNone
import Derived.RangeFuncBox
import Derived.RangeFuncLeaves
import Derived.Shelf.Abstract
import Derived.OwnWalkIn
import Derived.TacticsInMore
import Derived.LoopNIn
import Derived.LoopIn
import Derived.Lib.OwnBridge
import Derived.Sort.OwnSorted
import Derived.Sort.Grow
import Derived.Shelf.Strings.OnBuilder
import Derived.Sort.Walk0
import Derived.Lib.Strings
import Derived.Shelf.SlicesE.DeleteFunc
import Derived.Lib.SliceRun
import Derived.Deep.Slices
import Derived.Deep.Fields
import Derived.ChangeSame
import Derived.ChangeArms
import Derived.WideShapes
import Derived.Test.YtefcbnlljpdjnaaDoorRows
import Derived.Test.YtefcbnlljpdjnaaDoorTie
import Derived.Test.YtefcbnlljpdjnaaDoorCards
import Derived.ProofKit
import Derived.OpenShut
import Derived.ShutString
import Derived.ChangeOld
import Derived.SizedLaws
import Derived.Carry
import Derived.LaidMore
import Derived.Lay
import Derived.SevenTiedAt
import Derived.Stop.Joined
set_option linter.unusedVariables false
set_option linter.unusedSimpArgs false
namespace Go.Proofs.YtefcbnlljpdjnaaDoor.Q
open Go.RowKit Go.Proofs.YtefcbnlljpdjnaaDoorW.PrintWords Go.Proofs.YtefcbnlljpdjnaaDoorW.PrintLast
theorem implPrefixes {ws : List ByteArray} (h : VW ws) : Ev (fun k => impl_Trie_prefixes.f k (trieW ws)) (prefW ws, true) := by
  have := prefixes_ev (trieW ws)
  rwa [prefixesW_trie h] at this
end Go.Proofs.YtefcbnlljpdjnaaDoor.Q
namespace Go.Proofs.YtefcbnlljpdjnaaDoor.Q
open Go.RowKit Go.Proofs.YtefcbnlljpdjnaaDoorW.PrintWords Go.Proofs.YtefcbnlljpdjnaaDoorW.PrintLast Go.Proofs.YtefcbnlljpdjnaaDoorW.PrintMore
attribute [local go_sem] run_field_25 run_field_26 run_field_35 run_field_36 isSome_setCell max2_int min2_int max_two min_two max_three min_three max_four min_four   -- for this text's walks alone
set_option linter.unusedVariables false
set_option linter.unusedSimpArgs false
mutual
def spec_l5Closed.l0 : Nat → List ByteArray → List ByteArray → Int → Option (List ByteArray)
  | 0, _, _, _ => none
  | k + 1, x0, x3, x4 => if x4 < (x0.length : Int) then (spec_l5Closed.l1 k x0 x3 x4 0) else (some x3)
def spec_l5Closed.l1 : Nat → List ByteArray → List ByteArray → Int → Int → Option (List ByteArray)
  | 0, _, _, _, _ => none
  | k + 1, x0, x3, x4, x5 => if 0 ≤ x4 then (if x4 < (x0.length : Int) then (if x5 ≤ ((rdOf ByteArray.empty x0 x4).size : Int) then (if 0 ≤ x5 then ((spec_l2Put.f k x3 ((rdOf ByteArray.empty x0 x4).extract 0 (x5 : Int).toNat)).bind fun t815 => (spec_l5Closed.l1 k x0 t815 x4 (wrap64 (x5 + 1)))) else (none)) else (spec_l5Closed.l0 k x0 x3 (wrap64 (x4 + 1)))) else (none)) else (none)
end
def spec_l5Closed.f (k : Nat) (l0 : List ByteArray) : Option (List ByteArray) := spec_l5Closed.l0 k l0 (([] : List ByteArray)) 0
set_option maxHeartbeats 8000000 in
set_option maxRecDepth 100000 in
theorem spec_l5Closed.calls (k : Nat) (A0 : Option Addr) (c0 : Nat) (l0 : List ByteArray) (r : List ByteArray) (w : World) (hr0 : Kd.C Kd.string w A0 l0.length l0) (hc0 : l0.length ≤ c0) (h : spec_l5Closed.f k l0 = some r) :
    Calls Tryd.prog 70 #[.slice A0 l0.length c0] w fun e w' => ∃ v0_ : Value, e = .returned (v0_) ∧ Kd.V Kd.string 9 w' w.heap.size (fun k_ => (w.heap.size ≤ k_)) v0_ r ∧ Below w.heap.size w w' := by
  have HR0 := Aside0.mk hr0
  have HC0 := Aside0.mk hc0
  clear hr0 hc0
  have HB := Aside0.mk (Below.refl w.heap.size w)
  have H : (spec_l5Closed.l0 k l0 (([] : List ByteArray)) 0) = some r := h
  clear h
  obtain ⟨y810, hy810⟩ : ∃ y_ : List ByteArray, y_ = (([] : List ByteArray)) := ⟨_, rfl⟩
  replace H : (spec_l5Closed.l0 k l0 y810 0) = some r := by first | (rw [hy810]; with_reducible exact H) | (have H2_ := (Option.bind_some _ _).symm.trans H; rw [hy810]; with_reducible exact H2_) | (have H2_ := (Option.bind_some _ _).symm.trans H; with_reducible exact H2_) | with_reducible exact H | (rw [hy810]; exact H) | exact H
  have Ny810 := Aside0.mk hy810
  clear hy810
  have H' := Aside0.mk H
  clear H
  go_enter Tryd.func70, Tryd.ntmps70
  go_wp2_with (first | ((with_reducible refine gate_dst (N := 6) rfl ?_); refine Kd.R_lit Kd.string _ 9 ?hg (N := 6) ?hd (xs := ([] : List ByteArray)) (inner := []) (ok := fun _ => True) (okp := fun _ => True) ?hr ?hp (fun _ hk => hk) trivial (Below.refl _ _) (Nat.le_refl _) (by simp) ?_; (case hd => rfl); (case hg => rfl); (case hr => first | (go_simp; done) | (go_simp; rfl)); (case hp => exact (Reps.none _ _)); intro v811 w2 ho3 hb hg_ hnew_; clear hg_ hnew_; (first | rw [← Ny810.out] at ho3 | (simp only [Int.reduceToNat] at ho3; rw [← Ny810.out] at ho3)); have n0_ := Aside0.mk (Kd.R_lower (Kd.R_newM (M := fun k_ => (w.heap.size ≤ k_)) ho3 (below_size (by repeat (first | (with_reducible first | exact HB.out | apply below_alloc | apply pw_below_drewN | apply below_drew1) | exact HB.out))) (fun k_ h_ => h_)) (below_size (by repeat (first | (with_reducible first | exact HB.out | apply below_alloc | apply pw_below_drewN | apply below_drew1) | exact HB.out)))); have n1_ := Aside0.mk (below_step (by repeat (first | (with_reducible first | exact HB.out | apply below_alloc | apply pw_below_drewN | apply below_drew1) | exact HB.out)) hb); clear HB; have HO812 := n0_; have HB := n1_; clear n0_ n1_; clear hb ho3))
  go_loopg [3, 4] k (fun kq v3 v4 w' => ∃ (x3_1 : List ByteArray) (x4_1 : Int), v4 = .int .i64 x4_1 ∧ Aside0 (spec_l5Closed.l0 kq l0 x3_1 x4_1 = some r) ∧ Aside0 (kq ≤ k) ∧ Aside0 (Kd.V Kd.string 9 w' w.heap.size (fun k_ => (w.heap.size ≤ k_)) v3 x3_1) ∧ Aside0 (Below w.heap.size w w'))
  case atStart => exact ⟨(y810), (0), (by first | rfl | (simp; done) | (simp [*]; done)), H', ⟨Nat.le_refl _⟩, ⟨Kd.R_V (by (with_reducible repeat (first | apply Kd.R_alloc | apply Kd.R_drewN | apply Kd.R_drew)); exact Kd.R_mono HO812.out (fun _ hk => hk.1))⟩, ⟨by repeat (first | (with_reducible first | exact HB.out | apply below_alloc | apply pw_below_drewN | apply below_drew1) | exact HB.out)⟩⟩
  case round =>
    clear H'
    try clear p2
    obtain ⟨x3_1, x4_1, rfl, HA, HK1, HO_3, HB⟩ := hrel
    cases gk with
    | zero => exact absurd HA.out (by simp [spec_l5Closed.l0])
    | succ k1 =>
      have H := HA.out
      clear HA
      simp only [spec_l5Closed.l0] at H
      by_cases c4 : x4_1 < (l0.length : Int)
      · rw [if_pos c4] at H
        have c4b0 : decide (x4_1 < (l0.length : Int)) = true := decide_eq_true c4
        clear c4
        have H' := Aside0.mk H
        clear H
        go_wp2
        go_loopg [3, 5] k1 (fun kq v3 v5 w' => ∃ (x3_2 : List ByteArray) (x5_2 : Int), v5 = .int .i64 x5_2 ∧ Aside0 (spec_l5Closed.l1 kq l0 x3_2 x4_1 x5_2 = some r) ∧ Aside0 (kq ≤ k1) ∧ Aside0 (Kd.V Kd.string 9 w' w.heap.size (fun k_ => (w.heap.size ≤ k_)) v3 x3_2) ∧ Aside0 (Below w.heap.size w w'))
        case atStart => exact ⟨(x3_1), (0), (by first | rfl | (simp; done) | (simp [*]; done)), H', ⟨Nat.le_refl _⟩, ⟨by (with_reducible repeat (first | apply Kd.V_alloc | apply Kd.V_drewN | apply Kd.V_drew)); exact HO_3.out⟩, ⟨by repeat (first | (with_reducible first | exact HB.out | apply below_alloc | apply pw_below_drewN | apply below_drew1) | exact HB.out)⟩⟩
        case round =>
          clear H'
          try clear p2
          try clear c4
          try clear c4b0
          try clear p2
          obtain ⟨x3_2, x5_2, rfl, HA, HK2, HO_3, HB⟩ := hrel
          cases gk with
          | zero => exact absurd HA.out (by simp [spec_l5Closed.l1])
          | succ k2 =>
            have H := HA.out
            clear HA
            simp only [spec_l5Closed.l1] at H
            by_cases c5 : 0 ≤ x4_1
            · rw [if_pos c5] at H
              have c5b0 : decide (0 ≤ x4_1) = true := decide_eq_true c5
              clear c5
              by_cases c6 : x4_1 < (l0.length : Int)
              · rw [if_pos c6] at H
                have c6b0 : decide (x4_1 < (l0.length : Int)) = true := decide_eq_true c6
                clear c6
                by_cases c7 : x5_2 ≤ ((rdOf ByteArray.empty l0 x4_1).size : Int)
                · rw [if_pos c7] at H
                  have c7b0 : decide (x5_2 ≤ ((rdOf ByteArray.empty l0 x4_1).size : Int)) = true := decide_eq_true c7
                  clear c7
                  by_cases c8 : 0 ≤ x5_2
                  · rw [if_pos c8] at H
                    have c8b0 := eq_true c8
                    have c8b1 : decide (0 ≤ x5_2) = true := decide_eq_true c8
                    clear c8
                    have c9b0 := eq_true (of_decide_eq_true (by first | (with_reducible assumption) | assumption) : x5_2 ≤ ((rdOf ByteArray.empty l0 x4_1).size : Int))
                    replace H := Option.bind_eq_some_iff.mp H
                    obtain ⟨t815, A100, H⟩ := H
                    replace H : (spec_l5Closed.l1 k2 l0 t815 x4_1 (wrap64 (x5_2 + 1))) = some r := H
                    have A10 := Aside0.mk A100
                    clear A100
                    have H' := Aside0.mk H
                    clear H
                    have p813 : 0 ≤ (x4_1 : Int) := of_decide_eq_true (by first | (with_reducible assumption) | assumption)
                    have q813 : x4_1 < (l0.length : Int) := of_decide_eq_true (by first | (with_reducible assumption) | assumption)
                    obtain ⟨ad813, e813, hx813_0⟩ := Kd.at_string HR0.out x4_1 p813 q813
                    cases e813
                    replace hx813_0 := (HB.out.cell (World.block_lt_of_cell? w _ hx813_0)).trans hx813_0
                    replace p813 := eq_true p813
                    replace q813 := eq_true q813
                    have p814 : 0 ≤ (x4_1 : Int) := of_decide_eq_true (by first | (with_reducible assumption) | assumption)
                    have q814 : x4_1 < (l0.length : Int) := of_decide_eq_true (by first | (with_reducible assumption) | assumption)
                    obtain ⟨ad814, e814, hx814_0⟩ := Kd.at_string HR0.out x4_1 p814 q814
                    obtain rfl : ad813 = ad814 := (by injection e814)
                    replace hx814_0 := (HB.out.cell (World.block_lt_of_cell? w _ hx814_0)).trans hx814_0
                    replace p814 := eq_true p814
                    replace q814 := eq_true q814
                    obtain ⟨Ao11, co11, eo11⟩ := Kd.V_slice HO_3.out
                    subst eo11
                    go_wp2_with (first | ((with_reducible refine gate_callee (f := 60) rfl ?_); refine goesL_ (some 29) rfl rfl Tryd.func60 (by kernel_rfl) rfl #[.slice Ao11 x3_2.length co11, .string ((rdOf ByteArray.empty l0 x4_1).extract 0 (x5_2 : Int).toNat)] rfl (by (try simp only [List.map_toArray, List.map_cons, List.map_nil]); first | done | rfl | (simp only [List.length_drop, List.length_take]; rfl)) ?_; (with_reducible refine (spec_l2Put.calls k2 (fun k_ => (w.heap.size ≤ k_)) _ _ x3_2 ((rdOf ByteArray.empty l0 x4_1).extract 0 (x5_2 : Int).toNat) t815 _ ?side1 A10.out).mono ?_); (case side1 => exact HO_3.out); rintro e w12 ⟨v816, rfl, ho0, hb⟩; refine ⟨_, rfl, ?_⟩; have n0_ := Aside0.mk (Kd.V_below (by (with_reducible repeat (first | apply Kd.V_alloc | apply Kd.V_drewN | apply Kd.V_drew)); exact HO_3.out) hb); have n1_ := Aside0.mk (Kd.V_lower (Kd.V_mono (ok' := fun k_ => (w.heap.size ≤ k_)) ho0 (fun k_ hk_ => Or.elim hk_ (fun hs_ => hs_) (fun hn_ => (Nat.le_trans (below_size (by repeat (first | (with_reducible first | exact HB.out | apply below_alloc | apply pw_below_drewN | apply below_drew1) | exact HB.out))) hn_)))) (below_size (by repeat (first | (with_reducible first | exact HB.out | apply below_alloc | apply pw_below_drewN | apply below_drew1) | exact HB.out)))); have n2_ := Aside0.mk (below_step (by repeat (first | (with_reducible first | exact HB.out | apply below_alloc | apply pw_below_drewN | apply below_drew1) | exact HB.out)) hb); clear HO_3; clear HB; have HO_3 := n0_; have HO817 := n1_; have HB := n2_; clear n0_ n1_ n2_; (try clear hb); (try clear hb2); (try clear hk); (try clear hi); (try clear ho0)))
                    go_roundg k2
                    case measure => have := HK1.out; have := HK2.out; omega
                    case rel => exact ⟨(t815), (wrap64 (x5_2 + 1)), (by first | rfl | (simp; done) | (simp [*]; done)), H', ⟨by have := HK1.out; have := HK2.out; omega⟩, ⟨by (with_reducible repeat (first | apply Kd.V_alloc | apply Kd.V_drewN | apply Kd.V_drew)); exact HO817.out⟩, ⟨by repeat (first | (with_reducible first | exact HB.out | apply below_alloc | apply pw_below_drewN | apply below_drew1) | exact HB.out)⟩⟩
                  · rw [if_neg c8] at H
                    exact absurd H (by simp)
                · rw [if_neg c7] at H
                  have c7b0 : decide (x5_2 ≤ ((rdOf ByteArray.empty l0 x4_1).size : Int)) = false := decide_eq_false c7
                  clear c7
                  have H' := Aside0.mk H
                  clear H
                  have p813 : 0 ≤ (x4_1 : Int) := of_decide_eq_true (by first | (with_reducible assumption) | assumption)
                  have q813 : x4_1 < (l0.length : Int) := of_decide_eq_true (by first | (with_reducible assumption) | assumption)
                  obtain ⟨ad813, e813, hx813_0⟩ := Kd.at_string HR0.out x4_1 p813 q813
                  cases e813
                  replace hx813_0 := (HB.out.cell (World.block_lt_of_cell? w _ hx813_0)).trans hx813_0
                  replace p813 := eq_true p813
                  replace q813 := eq_true q813
                  go_wp2
                  go_roundg k2
                  case measure => have := HK1.out; have := HK2.out; omega
                  case rel => exact ⟨(x3_2), (wrap64 (x4_1 + 1)), (by first | rfl | (simp; done) | (simp [*]; done)), H', ⟨by have := HK1.out; have := HK2.out; omega⟩, ⟨by (with_reducible repeat (first | apply Kd.V_alloc | apply Kd.V_drewN | apply Kd.V_drew)); exact HO_3.out⟩, ⟨by repeat (first | (with_reducible first | exact HB.out | apply below_alloc | apply pw_below_drewN | apply below_drew1) | exact HB.out)⟩⟩
              · rw [if_neg c6] at H
                exact absurd H (by simp)
            · rw [if_neg c5] at H
              exact absurd H (by simp)
      · rw [if_neg c4] at H
        have c4b0 : decide (x4_1 < (l0.length : Int)) = false := decide_eq_false c4
        clear c4
        obtain rfl := Option.some.inj H
        go_wp2
        go_ret
        exact ⟨_, by first | rfl | (simp [errW_none, errW_some] <;> rfl) | (simp [*, errW_none, errW_some] <;> rfl), by (with_reducible repeat (first | apply Kd.V_alloc | apply Kd.V_drewN | apply Kd.V_drew)); exact HO_3.out, by repeat (first | (with_reducible first | exact HB.out | apply below_alloc | apply pw_below_drewN | apply below_drew1) | exact HB.out)⟩
def spec_CloseTrie.f (k : Nat) (l0_0 : List (S76)) : Option ((List (S76)) × Bool) := (spec_l2Trie.f k l0_0).bind fun t820 => (if t820 = true then ((spec_l2Words.f k l0_0).bind fun t821 => ((spec_l5Closed.f k t821).bind fun t824 => ((spec_l5Made.f k t824).bind fun bt827 => (some (bt827.1, bt827.2))))) else (some (([] : List (S76)), false)))
set_option maxHeartbeats 8000000 in
set_option maxRecDepth 100000 in
theorem spec_CloseTrie.calls (k : Nat) (A0_0 : Option Addr) (c0_0 : Nat) (l0_0 : List (S76)) (r1 : List (S76)) (r2 : Bool) (w : World) (hr0_0 : Kd.C k76 w A0_0 l0_0.length l0_0) (hc0_0 : l0_0.length ≤ c0_0) (h : spec_CloseTrie.f k l0_0 = some (r1, r2)) :
    Calls Tryd.prog 35 #[.agg #[.slice A0_0 l0_0.length c0_0]] w fun e w' => ∃ v0_ : Value, e = .returned (.tuple #[.agg #[v0_], .bool r2]) ∧ Kd.R k76 76 w' w.heap.size (fun _ => True) v0_ r1 ∧ Below w.heap.size w w' := by
  have hu26 := Tryd.underlying26
  have HR0_0 := Aside0.mk hr0_0
  have HC0_0 := Aside0.mk hc0_0
  clear hr0_0 hc0_0
  have HB := Aside0.mk (Below.refl w.heap.size w)
  have H : ((spec_l2Trie.f k l0_0).bind fun t820 => (if t820 = true then ((spec_l2Words.f k l0_0).bind fun t821 => ((spec_l5Closed.f k t821).bind fun t824 => ((spec_l5Made.f k t824).bind fun bt827 => (some (bt827.1, bt827.2))))) else (some (([] : List (S76)), false)))) = some (r1, r2) := h
  clear h
  replace H := Option.bind_eq_some_iff.mp H
  obtain ⟨t820, A20, H⟩ := H
  replace H : (if t820 = true then ((spec_l2Words.f k l0_0).bind fun t821 => ((spec_l5Closed.f k t821).bind fun t824 => ((spec_l5Made.f k t824).bind fun bt827 => (some (bt827.1, bt827.2))))) else (some (([] : List (S76)), false))) = some (r1, r2) := H
  have A2 := Aside0.mk A20
  clear A20
  by_cases c3 : t820 = true
  · subst c3
    have H1 : ((spec_l2Words.f k l0_0).bind fun t821 => ((spec_l5Closed.f k t821).bind fun t824 => ((spec_l5Made.f k t824).bind fun bt827 => (some (bt827.1, bt827.2))))) = some (r1, r2) := by rw [if_pos rfl] at H; exact H
    clear H
    have H := H1
    clear H1
    replace H := Option.bind_eq_some_iff.mp H
    obtain ⟨t821, A40, H⟩ := H
    replace H : ((spec_l5Closed.f k t821).bind fun t824 => ((spec_l5Made.f k t824).bind fun bt827 => (some (bt827.1, bt827.2)))) = some (r1, r2) := H
    have A4 := Aside0.mk A40
    clear A40
    replace H := Option.bind_eq_some_iff.mp H
    obtain ⟨t824, A50, H⟩ := H
    replace H : ((spec_l5Made.f k t824).bind fun bt827 => (some (bt827.1, bt827.2))) = some (r1, r2) := H
    have A5 := Aside0.mk A50
    clear A50
    replace H := Option.bind_eq_some_iff.mp H
    obtain ⟨⟨t827, t830⟩, A60, H⟩ := H
    replace H : (some (t827, t830)) = some (r1, r2) := H
    have A6 := Aside0.mk A60
    clear A60
    simp only [Option.some.injEq, Prod.mk.injEq] at H
    obtain ⟨rfl, rfl⟩ := H
    go_enter Tryd.func35, Tryd.ntmps35
    go_wp2_with (first | ((with_reducible refine gate_dst (N := 1) rfl ?_); refine box_event ?hg (N := 1) ?hd (cs := #[.slice A0_0 l0_0.length c0_0]) (t := 26) ?hr ?_; (case hd => rfl); (case hg => rfl); (case hr => first | (go_simp; done) | (go_simp; rfl)); intro gb818 hg w7 hbox hb; have n0_ := Aside0.mk (below_step (by repeat (first | (with_reducible first | exact HB.out | apply below_alloc | apply pw_below_drewN | apply below_drew1) | exact HB.out)) hb); have n1_ := Aside0.mk (hbox); have n2_ := Aside0.mk ((by rw [hg]; exact (below_size (by repeat (first | (with_reducible first | exact HB.out | apply below_alloc | apply pw_below_drewN | apply below_drew1) | exact HB.out))) : w.heap.size ≤ gb818)); have n3_ := Aside0.mk ((by rw [hg]; exact (below_size (by repeat (first | (with_reducible first | exact HB.out | apply below_alloc | apply pw_below_drewN | apply below_drew1) | exact HB.out))) : w.heap.size ≤ gb818)); clear HB; have HB := n0_; have BK818 := n1_; have GW818 := n2_; have GE818 := n3_; clear n0_ n1_ n2_ n3_; clear hb hbox hg) | ((with_reducible refine gate_dst (N := 2) rfl ?_); refine box_event ?hg (N := 2) ?hd (cs := #[.slice none 0 0]) (t := 26) ?hr ?_; (case hd => rfl); (case hg => rfl); (case hr => first | (go_simp; done) | (go_simp; rfl)); intro gb819 hg w8 hbox hb; have n0_ := Aside0.mk (blk_below (g := gb818) (o := .cells #[.slice A0_0 l0_0.length c0_0] 26 (0, 0)) (by (with_reducible repeat (first | refine blk_drewN ?_ _ | refine blk_drew ?_ | refine blk_alloc ?_ _)); exact BK818.out) hb); have n1_ := Aside0.mk (below_step (by repeat (first | (with_reducible first | exact HB.out | apply below_alloc | apply pw_below_drewN | apply below_drew1 | refine below_set ?_ GE818.out) | exact HB.out)) hb); have n2_ := Aside0.mk (hbox); have n3_ := Aside0.mk ((by rw [hg]; exact (below_size (by repeat (first | (with_reducible first | exact HB.out | apply below_alloc | apply pw_below_drewN | apply below_drew1 | refine below_set ?_ GE818.out) | exact HB.out))) : w.heap.size ≤ gb819)); have n4_ := Aside0.mk ((by rw [hg]; exact (below_size (by repeat (first | (with_reducible first | exact HB.out | apply below_alloc | apply pw_below_drewN | apply below_drew1 | refine below_set ?_ GE818.out) | exact HB.out))) : w.heap.size ≤ gb819)); have n5_ := Aside0.mk ((by rw [hg]; exact Nat.ne_of_lt (blk_lt (g := gb818) (o := .cells #[.slice A0_0 l0_0.length c0_0] 26 (0, 0)) (by (with_reducible repeat (first | refine blk_drewN ?_ _ | refine blk_drew ?_ | refine blk_alloc ?_ _)); exact BK818.out)) : gb818 ≠ gb819)); have n6_ := Aside0.mk ((by rw [hg]; exact Nat.ne_of_gt (blk_lt (g := gb818) (o := .cells #[.slice A0_0 l0_0.length c0_0] 26 (0, 0)) (by (with_reducible repeat (first | refine blk_drewN ?_ _ | refine blk_drew ?_ | refine blk_alloc ?_ _)); exact BK818.out)) : gb819 ≠ gb818)); clear BK818; clear HB; have BK818 := n0_; have HB := n1_; have BK819 := n2_; have GW819 := n3_; have GE819 := n4_; have NB818_819 := n5_; have NB819_818 := n6_; clear n0_ n1_ n2_ n3_ n4_ n5_ n6_; clear hb hbox hg; have hnb9 := NB818_819.out; have hnc9 := NB819_818.out; have hcz10_0 : w8.cell? ⟨gb818, 0, none⟩ = some (.slice A0_0 l0_0.length c0_0) := (blk_cell BK818.out 0).trans rfl; have hfz10_0 := blk_frozen BK818.out 0) | ((with_reducible refine gate_callee (f := 50) rfl ?_); refine goesL_ (some 5) rfl rfl Tryd.func50 (by kernel_rfl) rfl #[.agg #[.slice A0_0 l0_0.length c0_0]] rfl (by (try simp only [List.map_toArray, List.map_cons, List.map_nil]); first | done | rfl | (simp only [List.length_drop, List.length_take]; rfl)) ?_; (with_reducible refine (spec_l2Trie.calls k _ _ l0_0 true _ ?side1 ?side2 A2.out).mono ?_); (case side1 => repeat (first | exact (Kd.C_below HR0_0.out HB.out) | (with_reducible refine Kd.C_alloc ?_ _) | (with_reducible refine Kd.C_drewN ?_ _) | (with_reducible refine Kd.C_drew ?_))); (case side2 => exact HC0_0.out); rintro e w11 ⟨rfl, hb⟩; refine ⟨_, rfl, ?_⟩; have n0_ := Aside0.mk (blk_below (g := gb818) (o := .cells #[.slice A0_0 l0_0.length c0_0] 26 (0, 0)) (by (with_reducible repeat (first | refine blk_drewN ?_ _ | refine blk_drew ?_ | refine blk_alloc ?_ _)); exact BK818.out) hb); have n1_ := Aside0.mk (blk_below (g := gb819) (o := .cells #[.slice none 0 0] 26 (0, 0)) (by (with_reducible repeat (first | refine blk_drewN ?_ _ | refine blk_drew ?_ | refine blk_alloc ?_ _)); exact BK819.out) hb); have n2_ := Aside0.mk (below_step (by repeat (first | (with_reducible first | exact HB.out | apply below_alloc | apply pw_below_drewN | apply below_drew1 | refine below_set ?_ GE818.out | refine below_set ?_ GE819.out) | exact HB.out)) hb); clear BK818; clear BK819; clear HB; have BK818 := n0_; have BK819 := n1_; have HB := n2_; clear n0_ n1_ n2_; (try clear hb); (try clear hb2); (try clear hk); (try clear hi); have hcz12_0 : w11.cell? ⟨gb818, 0, none⟩ = some (.slice A0_0 l0_0.length c0_0) := (blk_cell BK818.out 0).trans rfl; have hfz12_0 := blk_frozen BK818.out 0) | ((with_reducible refine gate_callee (f := 52) rfl ?_); refine goesL_ (some 9) rfl rfl Tryd.func52 (by kernel_rfl) rfl #[.agg #[.slice A0_0 l0_0.length c0_0]] rfl (by (try simp only [List.map_toArray, List.map_cons, List.map_nil]); first | done | rfl | (simp only [List.length_drop, List.length_take]; rfl)) ?_; (with_reducible refine (spec_l2Words.calls k _ _ l0_0 t821 _ ?side1 ?side2 A4.out).mono ?_); (case side1 => repeat (first | exact (Kd.C_below HR0_0.out HB.out) | (with_reducible refine Kd.C_alloc ?_ _) | (with_reducible refine Kd.C_drewN ?_ _) | (with_reducible refine Kd.C_drew ?_))); (case side2 => exact HC0_0.out); rintro e w13 ⟨v822, rfl, ho0, hb⟩; refine ⟨_, rfl, ?_⟩; have n0_ := Aside0.mk (Kd.R_lower ho0 (below_size (by repeat (first | (with_reducible first | exact HB.out | apply below_alloc | apply pw_below_drewN | apply below_drew1 | refine below_set ?_ GE818.out | refine below_set ?_ GE819.out) | exact HB.out)))); have n1_ := Aside0.mk (blk_below (g := gb818) (o := .cells #[.slice A0_0 l0_0.length c0_0] 26 (0, 0)) (by (with_reducible repeat (first | refine blk_drewN ?_ _ | refine blk_drew ?_ | refine blk_alloc ?_ _)); exact BK818.out) hb); have n2_ := Aside0.mk (blk_below (g := gb819) (o := .cells #[.slice none 0 0] 26 (0, 0)) (by (with_reducible repeat (first | refine blk_drewN ?_ _ | refine blk_drew ?_ | refine blk_alloc ?_ _)); exact BK819.out) hb); have n3_ := Aside0.mk (below_step (by repeat (first | (with_reducible first | exact HB.out | apply below_alloc | apply pw_below_drewN | apply below_drew1 | refine below_set ?_ GE818.out | refine below_set ?_ GE819.out) | exact HB.out)) hb); clear BK818; clear BK819; clear HB; have HO823 := n0_; have BK818 := n1_; have BK819 := n2_; have HB := n3_; clear n0_ n1_ n2_ n3_; (try clear hb); (try clear hb2); (try clear hk); (try clear hi); (try clear ho0); obtain ⟨Ao14, co14, eo14⟩ := Kd.R_slice HO823.out; subst eo14) | ((with_reducible refine gate_callee (f := 70) rfl ?_); refine goesL_ (some 10) rfl rfl Tryd.func70 (by kernel_rfl) rfl #[.slice Ao14 t821.length co14] rfl (by (try simp only [List.map_toArray, List.map_cons, List.map_nil]); first | done | rfl | (simp only [List.length_drop, List.length_take]; rfl)) ?_; (with_reducible refine (spec_l5Closed.calls k _ _ t821 t824 _ ?side1 ?side2 A5.out).mono ?_); (case side1 => repeat (first | exact (Kd.R_reads' HO823.out).2.2 | (with_reducible refine Kd.C_alloc ?_ _) | (with_reducible refine Kd.C_drewN ?_ _) | (with_reducible refine Kd.C_drew ?_))); (case side2 => exact (Kd.R_reads' HO823.out).2.1); rintro e w15 ⟨v825, rfl, ho0, hb⟩; refine ⟨_, rfl, ?_⟩; have n0_ := Aside0.mk (Kd.R_below (by (with_reducible repeat (first | apply Kd.R_alloc | apply Kd.R_drewN | apply Kd.R_drew)); exact HO823.out) hb); have n1_ := Aside0.mk (Kd.V_lower (Kd.V_mono (ok' := fun k_ => some k_ ≠ (.slice Ao14 t821.length co14 : Value).ownBlock ∧ k_ ≠ gb818 ∧ k_ ≠ gb819) ho0 (fun k_ hk_ => ⟨(Kd.fresh' (Kd.R_lt (by (with_reducible repeat (first | apply Kd.R_alloc | apply Kd.R_drewN | apply Kd.R_drew)); exact HO823.out)) k_ hk_), (Kd.freshB (g := gb818) (o := .cells #[.slice A0_0 l0_0.length c0_0] 26 (0, 0)) (by (with_reducible repeat (first | refine blk_drewN ?_ _ | refine blk_drew ?_ | refine blk_alloc ?_ _)); exact BK818.out) k_ hk_), (Kd.freshB (g := gb819) (o := .cells #[.slice none 0 0] 26 (0, 0)) (by (with_reducible repeat (first | refine blk_drewN ?_ _ | refine blk_drew ?_ | refine blk_alloc ?_ _)); exact BK819.out) k_ hk_)⟩)) (below_size (by repeat (first | (with_reducible first | exact HB.out | apply below_alloc | apply pw_below_drewN | apply below_drew1 | refine below_set ?_ GE818.out | refine below_set ?_ GE819.out) | exact HB.out)))); have n2_ := Aside0.mk (blk_below (g := gb818) (o := .cells #[.slice A0_0 l0_0.length c0_0] 26 (0, 0)) (by (with_reducible repeat (first | refine blk_drewN ?_ _ | refine blk_drew ?_ | refine blk_alloc ?_ _)); exact BK818.out) hb); have n3_ := Aside0.mk (blk_below (g := gb819) (o := .cells #[.slice none 0 0] 26 (0, 0)) (by (with_reducible repeat (first | refine blk_drewN ?_ _ | refine blk_drew ?_ | refine blk_alloc ?_ _)); exact BK819.out) hb); have n4_ := Aside0.mk (below_step (by repeat (first | (with_reducible first | exact HB.out | apply below_alloc | apply pw_below_drewN | apply below_drew1 | refine below_set ?_ GE818.out | refine below_set ?_ GE819.out) | exact HB.out)) hb); clear HO823; clear BK818; clear BK819; clear HB; have HO823 := n0_; have HO826 := n1_; have BK818 := n2_; have BK819 := n3_; have HB := n4_; clear n0_ n1_ n2_ n3_ n4_; (try clear hb); (try clear hb2); (try clear hk); (try clear hi); (try clear ho0); obtain ⟨Ao16, co16, eo16⟩ := Kd.V_slice HO826.out; subst eo16) | ((with_reducible refine gate_callee (f := 67) rfl ?_); refine goesL_ (some 11) rfl rfl Tryd.func67 (by kernel_rfl) rfl #[.slice Ao16 t824.length co16] rfl (by (try simp only [List.map_toArray, List.map_cons, List.map_nil]); first | done | rfl | (simp only [List.length_drop, List.length_take]; rfl)) ?_; (with_reducible refine (spec_l5Made.calls k _ _ t824 t827 t830 _ ?side1 ?side2 A6.out).mono ?_); (case side1 => repeat (first | exact (Kd.V_reads' HO826.out).2.2 | (with_reducible refine Kd.C_alloc ?_ _) | (with_reducible refine Kd.C_drewN ?_ _) | (with_reducible refine Kd.C_drew ?_))); (case side2 => exact (Kd.V_reads' HO826.out).2.1); rintro e w17 ⟨v828, rfl, ho0, hb⟩; refine ⟨_, rfl, ?_⟩; have n0_ := Aside0.mk (Kd.R_below (by (with_reducible repeat (first | apply Kd.R_alloc | apply Kd.R_drewN | apply Kd.R_drew)); exact HO823.out) hb); have n1_ := Aside0.mk (Kd.V_elder' (by (with_reducible repeat (first | apply Kd.V_alloc | apply Kd.V_drewN | apply Kd.V_drew)); exact HO826.out) (Kd.R_base ho0) hb); have n2_ := Aside0.mk (Kd.R_lower ho0 (below_size (by repeat (first | (with_reducible first | exact HB.out | apply below_alloc | apply pw_below_drewN | apply below_drew1 | refine below_set ?_ GE818.out | refine below_set ?_ GE819.out) | exact HB.out)))); have n3_ := Aside0.mk (blk_below (g := gb818) (o := .cells #[.slice A0_0 l0_0.length c0_0] 26 (0, 0)) (by (with_reducible repeat (first | refine blk_drewN ?_ _ | refine blk_drew ?_ | refine blk_alloc ?_ _)); exact BK818.out) hb); have n4_ := Aside0.mk (blk_below (g := gb819) (o := .cells #[.slice none 0 0] 26 (0, 0)) (by (with_reducible repeat (first | refine blk_drewN ?_ _ | refine blk_drew ?_ | refine blk_alloc ?_ _)); exact BK819.out) hb); have n5_ := Aside0.mk (below_step (by repeat (first | (with_reducible first | exact HB.out | apply below_alloc | apply pw_below_drewN | apply below_drew1 | refine below_set ?_ GE818.out | refine below_set ?_ GE819.out) | exact HB.out)) hb); clear HO823; clear HO826; clear BK818; clear BK819; clear HB; have HO823 := n0_; have HO826 := n1_; have HO829 := n2_; have BK818 := n3_; have BK819 := n4_; have HB := n5_; clear n0_ n1_ n2_ n3_ n4_ n5_; (try clear hb); (try clear hb2); (try clear hk); (try clear hi); (try clear ho0); obtain ⟨Ao18, co18, eo18⟩ := Kd.R_slice HO829.out; subst eo18; have hcz19_0 : w17.cell? ⟨gb819, 0, none⟩ = some (.slice none 0 0) := (blk_cell BK819.out 0).trans rfl; have hfz19_0 := blk_frozen BK819.out 0))
    refine bodyPost_ret (results_ct rfl _ _ gb819 26 #[.slice Ao18 t827.length co18] (0, 0) _ rfl (by (with_reducible repeat (first | refine blk_drewN ?_ _ | refine blk_drew ?_ | refine blk_alloc ?_ _)); refine blk_put (cs := #[.slice none 0 0]) ?_ 0 _ rfl; (with_reducible repeat (first | refine blk_drewN ?_ _ | refine blk_drew ?_ | refine blk_alloc ?_ _)); exact BK819.out) Tryd.underlying26 rfl (by kernel_rfl)) rfl ?_
    exact ⟨_, by first | rfl | (simp [errW_none, errW_some] <;> rfl) | (simp [*, errW_none, errW_some] <;> rfl), by (with_reducible repeat (first | apply Kd.R_alloc | apply Kd.R_drewN | apply Kd.R_drew)); exact Kd.R_mono (R_same_ (Kd.R_far (p := ⟨gb819, 0, none⟩) (Kd.R_types HO829.out BK819.out (by decide)) (fun _ hk => hk.2) (.slice Ao18 t827.length co18)) rfl) (fun _ hk => trivial), by repeat (first | (with_reducible first | exact HB.out | apply below_alloc | apply pw_below_drewN | apply below_drew1 | refine below_set ?_ GE818.out | refine below_set ?_ GE819.out) | exact HB.out)⟩
  · replace c3 := Bool.eq_false_iff.mpr c3
    subst c3
    have H1 : (some (([] : List (S76)), false)) = some (r1, r2) := by rw [if_neg (show ¬ (false = true) by decide)] at H; exact H
    clear H
    have H := H1
    clear H1
    simp only [Option.some.injEq, Prod.mk.injEq] at H
    obtain ⟨rfl, rfl⟩ := H
    go_enter Tryd.func35, Tryd.ntmps35
    go_wp2_with (first | ((with_reducible refine gate_dst (N := 1) rfl ?_); refine box_event ?hg (N := 1) ?hd (cs := #[.slice A0_0 l0_0.length c0_0]) (t := 26) ?hr ?_; (case hd => rfl); (case hg => rfl); (case hr => first | (go_simp; done) | (go_simp; rfl)); intro gb818 hg w20 hbox hb; have n0_ := Aside0.mk (below_step (by repeat (first | (with_reducible first | exact HB.out | apply below_alloc | apply pw_below_drewN | apply below_drew1) | exact HB.out)) hb); have n1_ := Aside0.mk (hbox); have n2_ := Aside0.mk ((by rw [hg]; exact (below_size (by repeat (first | (with_reducible first | exact HB.out | apply below_alloc | apply pw_below_drewN | apply below_drew1) | exact HB.out))) : w.heap.size ≤ gb818)); have n3_ := Aside0.mk ((by rw [hg]; exact (below_size (by repeat (first | (with_reducible first | exact HB.out | apply below_alloc | apply pw_below_drewN | apply below_drew1) | exact HB.out))) : w.heap.size ≤ gb818)); clear HB; have HB := n0_; have BK818 := n1_; have GW818 := n2_; have GE818 := n3_; clear n0_ n1_ n2_ n3_; clear hb hbox hg) | ((with_reducible refine gate_dst (N := 2) rfl ?_); refine box_event ?hg (N := 2) ?hd (cs := #[.slice none 0 0]) (t := 26) ?hr ?_; (case hd => rfl); (case hg => rfl); (case hr => first | (go_simp; done) | (go_simp; rfl)); intro gb819 hg w21 hbox hb; have n0_ := Aside0.mk (blk_below (g := gb818) (o := .cells #[.slice A0_0 l0_0.length c0_0] 26 (0, 0)) (by (with_reducible repeat (first | refine blk_drewN ?_ _ | refine blk_drew ?_ | refine blk_alloc ?_ _)); exact BK818.out) hb); have n1_ := Aside0.mk (below_step (by repeat (first | (with_reducible first | exact HB.out | apply below_alloc | apply pw_below_drewN | apply below_drew1 | refine below_set ?_ GE818.out) | exact HB.out)) hb); have n2_ := Aside0.mk (hbox); have n3_ := Aside0.mk ((by rw [hg]; exact (below_size (by repeat (first | (with_reducible first | exact HB.out | apply below_alloc | apply pw_below_drewN | apply below_drew1 | refine below_set ?_ GE818.out) | exact HB.out))) : w.heap.size ≤ gb819)); have n4_ := Aside0.mk ((by rw [hg]; exact (below_size (by repeat (first | (with_reducible first | exact HB.out | apply below_alloc | apply pw_below_drewN | apply below_drew1 | refine below_set ?_ GE818.out) | exact HB.out))) : w.heap.size ≤ gb819)); have n5_ := Aside0.mk ((by rw [hg]; exact Nat.ne_of_lt (blk_lt (g := gb818) (o := .cells #[.slice A0_0 l0_0.length c0_0] 26 (0, 0)) (by (with_reducible repeat (first | refine blk_drewN ?_ _ | refine blk_drew ?_ | refine blk_alloc ?_ _)); exact BK818.out)) : gb818 ≠ gb819)); have n6_ := Aside0.mk ((by rw [hg]; exact Nat.ne_of_gt (blk_lt (g := gb818) (o := .cells #[.slice A0_0 l0_0.length c0_0] 26 (0, 0)) (by (with_reducible repeat (first | refine blk_drewN ?_ _ | refine blk_drew ?_ | refine blk_alloc ?_ _)); exact BK818.out)) : gb819 ≠ gb818)); clear BK818; clear HB; have BK818 := n0_; have HB := n1_; have BK819 := n2_; have GW819 := n3_; have GE819 := n4_; have NB818_819 := n5_; have NB819_818 := n6_; clear n0_ n1_ n2_ n3_ n4_ n5_ n6_; clear hb hbox hg; have hnb22 := NB818_819.out; have hnc22 := NB819_818.out; have hcz23_0 : w21.cell? ⟨gb818, 0, none⟩ = some (.slice A0_0 l0_0.length c0_0) := (blk_cell BK818.out 0).trans rfl; have hfz23_0 := blk_frozen BK818.out 0) | ((with_reducible refine gate_callee (f := 50) rfl ?_); refine goesL_ (some 5) rfl rfl Tryd.func50 (by kernel_rfl) rfl #[.agg #[.slice A0_0 l0_0.length c0_0]] rfl (by (try simp only [List.map_toArray, List.map_cons, List.map_nil]); first | done | rfl | (simp only [List.length_drop, List.length_take]; rfl)) ?_; (with_reducible refine (spec_l2Trie.calls k _ _ l0_0 false _ ?side1 ?side2 A2.out).mono ?_); (case side1 => repeat (first | exact (Kd.C_below HR0_0.out HB.out) | (with_reducible refine Kd.C_alloc ?_ _) | (with_reducible refine Kd.C_drewN ?_ _) | (with_reducible refine Kd.C_drew ?_))); (case side2 => exact HC0_0.out); rintro e w24 ⟨rfl, hb⟩; refine ⟨_, rfl, ?_⟩; have n0_ := Aside0.mk (blk_below (g := gb818) (o := .cells #[.slice A0_0 l0_0.length c0_0] 26 (0, 0)) (by (with_reducible repeat (first | refine blk_drewN ?_ _ | refine blk_drew ?_ | refine blk_alloc ?_ _)); exact BK818.out) hb); have n1_ := Aside0.mk (blk_below (g := gb819) (o := .cells #[.slice none 0 0] 26 (0, 0)) (by (with_reducible repeat (first | refine blk_drewN ?_ _ | refine blk_drew ?_ | refine blk_alloc ?_ _)); exact BK819.out) hb); have n2_ := Aside0.mk (below_step (by repeat (first | (with_reducible first | exact HB.out | apply below_alloc | apply pw_below_drewN | apply below_drew1 | refine below_set ?_ GE818.out | refine below_set ?_ GE819.out) | exact HB.out)) hb); clear BK818; clear BK819; clear HB; have BK818 := n0_; have BK819 := n1_; have HB := n2_; clear n0_ n1_ n2_; (try clear hb); (try clear hb2); (try clear hk); (try clear hi); have hcz25_0 : w24.cell? ⟨gb819, 0, none⟩ = some (.slice none 0 0) := (blk_cell BK819.out 0).trans rfl; have hfz25_0 := blk_frozen BK819.out 0))
    refine bodyPost_ret (results_ct rfl _ _ gb819 26 #[.slice none 0 0] (0, 0) _ rfl (by (with_reducible repeat (first | refine blk_drewN ?_ _ | refine blk_drew ?_ | refine blk_alloc ?_ _)); refine blk_put (cs := #[.slice none 0 0]) ?_ 0 _ rfl; (with_reducible repeat (first | refine blk_drewN ?_ _ | refine blk_drew ?_ | refine blk_alloc ?_ _)); exact BK819.out) Tryd.underlying26 rfl (by kernel_rfl)) rfl ?_
    exact ⟨_, by first | rfl | (simp [errW_none, errW_some] <;> rfl) | (simp [*, errW_none, errW_some] <;> rfl), by first | exact Kd.R_nil _ _ _ _ _ | exact Kd.N_nil _ _ _ _ _ | exact Kd.V_nil _ _ _ _ _ | exact Kd.Q_nil _ _ _ _ _ | exact Kd.S_nil _ _ _ _ _, by repeat (first | (with_reducible first | exact HB.out | apply below_alloc | apply pw_below_drewN | apply below_drew1 | refine below_set ?_ GE818.out | refine below_set ?_ GE819.out) | exact HB.out)⟩
def impl_Trie_closed.f (k : Nat) (l0_0 : List (S76)) : Option (List ByteArray) := (impl_Trie_prefixes.f k l0_0).bind fun bt832 => ((impl_Trie_words.f k l0_0).bind fun t836 => (if (t836.length : Int) = 0 then (some ([] : List ByteArray)) else (some bt832.1)))
set_option maxHeartbeats 8000000 in
set_option maxRecDepth 100000 in
theorem impl_Trie_closed.calls (k : Nat) (A0_0 : Option Addr) (c0_0 : Nat) (l0_0 : List (S76)) (r : List ByteArray) (w : World) (hr0_0 : Kd.C k76 w A0_0 l0_0.length l0_0) (hc0_0 : l0_0.length ≤ c0_0) (h : impl_Trie_closed.f k l0_0 = some r) :
    Calls Tryd.prog 71 #[.agg #[.slice A0_0 l0_0.length c0_0]] w fun e w' => ∃ v0_ : Value, e = .returned (v0_) ∧ Kd.R Kd.string 9 w' w.heap.size (fun _ => True) v0_ r ∧ Below w.heap.size w w' := by
  have hu26 := Tryd.underlying26
  have HR0_0 := Aside0.mk hr0_0
  have HC0_0 := Aside0.mk hc0_0
  clear hr0_0 hc0_0
  have HB := Aside0.mk (Below.refl w.heap.size w)
  have H : ((impl_Trie_prefixes.f k l0_0).bind fun bt832 => ((impl_Trie_words.f k l0_0).bind fun t836 => (if (t836.length : Int) = 0 then (some ([] : List ByteArray)) else (some bt832.1)))) = some r := h
  clear h
  replace H := Option.bind_eq_some_iff.mp H
  obtain ⟨⟨t832, t835⟩, A20, H⟩ := H
  replace H : ((impl_Trie_words.f k l0_0).bind fun t836 => (if (t836.length : Int) = 0 then (some ([] : List ByteArray)) else (some t832))) = some r := H
  have A2 := Aside0.mk A20
  clear A20
  replace H := Option.bind_eq_some_iff.mp H
  obtain ⟨t836, A30, H⟩ := H
  replace H : (if (t836.length : Int) = 0 then (some ([] : List ByteArray)) else (some t832)) = some r := H
  have A3 := Aside0.mk A30
  clear A30
  by_cases c4 : (t836.length : Int) = 0
  · rw [if_pos c4] at H
    have c4b0 : ((t836.length : Int) == 0) = true := beq_iff_eq.mpr c4
    have c4b1 : ((t836.length : Int) != 0) = false := bne_eq_false_iff_eq.mpr c4
    clear c4
    obtain rfl := Option.some.inj H
    go_enter Tryd.func71, Tryd.ntmps71
    go_wp2_with (first | ((with_reducible refine gate_dst (N := 1) rfl ?_); refine box_event ?hg (N := 1) ?hd (cs := #[.slice A0_0 l0_0.length c0_0]) (t := 26) ?hr ?_; (case hd => rfl); (case hg => rfl); (case hr => first | (go_simp; done) | (go_simp; rfl)); intro gb831 hg w5 hbox hb; have n0_ := Aside0.mk (below_step (by repeat (first | (with_reducible first | exact HB.out | apply below_alloc | apply pw_below_drewN | apply below_drew1) | exact HB.out)) hb); have n1_ := Aside0.mk (hbox); have n2_ := Aside0.mk ((by rw [hg]; exact (below_size (by repeat (first | (with_reducible first | exact HB.out | apply below_alloc | apply pw_below_drewN | apply below_drew1) | exact HB.out))) : w.heap.size ≤ gb831)); have n3_ := Aside0.mk ((by rw [hg]; exact (below_size (by repeat (first | (with_reducible first | exact HB.out | apply below_alloc | apply pw_below_drewN | apply below_drew1) | exact HB.out))) : w.heap.size ≤ gb831)); clear HB; have HB := n0_; have BK831 := n1_; have GW831 := n2_; have GE831 := n3_; clear n0_ n1_ n2_ n3_; clear hb hbox hg; have hcz6_0 : w5.cell? ⟨gb831, 0, none⟩ = some (.slice A0_0 l0_0.length c0_0) := (blk_cell BK831.out 0).trans rfl; have hfz6_0 := blk_frozen BK831.out 0) | ((with_reducible refine gate_callee (f := 86) rfl ?_); refine goesL_ (some 7) rfl rfl Tryd.func86 (by kernel_rfl) rfl #[.agg #[.slice A0_0 l0_0.length c0_0]] rfl (by (try simp only [List.map_toArray, List.map_cons, List.map_nil]); first | done | rfl | (simp only [List.length_drop, List.length_take]; rfl)) ?_; (with_reducible refine (impl_Trie_prefixes.calls k _ _ l0_0 t832 t835 _ ?side1 ?side2 A2.out).mono ?_); (case side1 => repeat (first | exact (Kd.C_below HR0_0.out HB.out) | (with_reducible refine Kd.C_alloc ?_ _) | (with_reducible refine Kd.C_drewN ?_ _) | (with_reducible refine Kd.C_drew ?_))); (case side2 => exact HC0_0.out); rintro e w7 ⟨v833, rfl, ho0, hb⟩; refine ⟨_, rfl, ?_⟩; have n0_ := Aside0.mk (Kd.R_lower ho0 (below_size (by repeat (first | (with_reducible first | exact HB.out | apply below_alloc | apply pw_below_drewN | apply below_drew1 | refine below_set ?_ GE831.out) | exact HB.out)))); have n1_ := Aside0.mk (blk_below (g := gb831) (o := .cells #[.slice A0_0 l0_0.length c0_0] 26 (0, 0)) (by (with_reducible repeat (first | refine blk_drewN ?_ _ | refine blk_drew ?_ | refine blk_alloc ?_ _)); exact BK831.out) hb); have n2_ := Aside0.mk (below_step (by repeat (first | (with_reducible first | exact HB.out | apply below_alloc | apply pw_below_drewN | apply below_drew1 | refine below_set ?_ GE831.out) | exact HB.out)) hb); clear BK831; clear HB; have HO834 := n0_; have BK831 := n1_; have HB := n2_; clear n0_ n1_ n2_; (try clear hb); (try clear hb2); (try clear hk); (try clear hi); (try clear ho0); have hcz8_0 : w7.cell? ⟨gb831, 0, none⟩ = some (.slice A0_0 l0_0.length c0_0) := (blk_cell BK831.out 0).trans rfl; have hfz8_0 := blk_frozen BK831.out 0) | ((with_reducible refine gate_callee (f := 57) rfl ?_); refine goesL_ (some 11) rfl rfl Tryd.func57 (by kernel_rfl) rfl #[.agg #[.slice A0_0 l0_0.length c0_0]] rfl (by (try simp only [List.map_toArray, List.map_cons, List.map_nil]); first | done | rfl | (simp only [List.length_drop, List.length_take]; rfl)) ?_; (with_reducible refine (impl_Trie_words.calls k _ _ l0_0 t836 _ ?side1 ?side2 A3.out).mono ?_); (case side1 => repeat (first | exact (Kd.C_below HR0_0.out HB.out) | (with_reducible refine Kd.C_alloc ?_ _) | (with_reducible refine Kd.C_drewN ?_ _) | (with_reducible refine Kd.C_drew ?_))); (case side2 => exact HC0_0.out); rintro e w9 ⟨v837, rfl, ho0, hb⟩; refine ⟨_, rfl, ?_⟩; have n0_ := Aside0.mk (Kd.R_elder' (by (with_reducible repeat (first | apply Kd.R_alloc | apply Kd.R_drewN | apply Kd.R_drew)); exact HO834.out) (Kd.R_base ho0) hb); have n1_ := Aside0.mk (Kd.R_lower (Kd.R_new' ho0 (Kd.R_lt (by (with_reducible repeat (first | apply Kd.R_alloc | apply Kd.R_drewN | apply Kd.R_drew)); exact HO834.out))) (below_size (by repeat (first | (with_reducible first | exact HB.out | apply below_alloc | apply pw_below_drewN | apply below_drew1 | refine below_set ?_ GE831.out) | exact HB.out)))); have n2_ := Aside0.mk (blk_below (g := gb831) (o := .cells #[.slice A0_0 l0_0.length c0_0] 26 (0, 0)) (by (with_reducible repeat (first | refine blk_drewN ?_ _ | refine blk_drew ?_ | refine blk_alloc ?_ _)); exact BK831.out) hb); have n3_ := Aside0.mk (below_step (by repeat (first | (with_reducible first | exact HB.out | apply below_alloc | apply pw_below_drewN | apply below_drew1 | refine below_set ?_ GE831.out) | exact HB.out)) hb); clear HO834; clear BK831; clear HB; have HO834 := n0_; have HO838 := n1_; have BK831 := n2_; have HB := n3_; clear n0_ n1_ n2_ n3_; (try clear hb); (try clear hb2); (try clear hk); (try clear hi); (try clear ho0); obtain ⟨Ao10, co10, eo10⟩ := Kd.R_slice HO838.out; subst eo10))
    go_ret
    exact ⟨_, by first | rfl | (simp [errW_none, errW_some] <;> rfl) | (simp [*, errW_none, errW_some] <;> rfl), by first | exact Kd.R_nil _ _ _ _ _ | exact Kd.N_nil _ _ _ _ _ | exact Kd.V_nil _ _ _ _ _ | exact Kd.Q_nil _ _ _ _ _ | exact Kd.S_nil _ _ _ _ _, by repeat (first | (with_reducible first | exact HB.out | apply below_alloc | apply pw_below_drewN | apply below_drew1 | refine below_set ?_ GE831.out) | exact HB.out)⟩
  · rw [if_neg c4] at H
    have c4b0 : ((t836.length : Int) == 0) = false := beq_eq_false_iff_ne.mpr c4
    have c4b1 : ((t836.length : Int) != 0) = true := bne_iff_ne.mpr c4
    have c4b2 : ¬ (t836 = []) := fun h_ => c4 (by rw [h_]; rfl)
    obtain rfl := Option.some.inj H
    go_enter Tryd.func71, Tryd.ntmps71
    go_wp2_with (first | ((with_reducible refine gate_dst (N := 1) rfl ?_); refine box_event ?hg (N := 1) ?hd (cs := #[.slice A0_0 l0_0.length c0_0]) (t := 26) ?hr ?_; (case hd => rfl); (case hg => rfl); (case hr => first | (go_simp; done) | (go_simp; rfl)); intro gb831 hg w11 hbox hb; have n0_ := Aside0.mk (below_step (by repeat (first | (with_reducible first | exact HB.out | apply below_alloc | apply pw_below_drewN | apply below_drew1) | exact HB.out)) hb); have n1_ := Aside0.mk (hbox); have n2_ := Aside0.mk ((by rw [hg]; exact (below_size (by repeat (first | (with_reducible first | exact HB.out | apply below_alloc | apply pw_below_drewN | apply below_drew1) | exact HB.out))) : w.heap.size ≤ gb831)); have n3_ := Aside0.mk ((by rw [hg]; exact (below_size (by repeat (first | (with_reducible first | exact HB.out | apply below_alloc | apply pw_below_drewN | apply below_drew1) | exact HB.out))) : w.heap.size ≤ gb831)); clear HB; have HB := n0_; have BK831 := n1_; have GW831 := n2_; have GE831 := n3_; clear n0_ n1_ n2_ n3_; clear hb hbox hg; have hcz12_0 : w11.cell? ⟨gb831, 0, none⟩ = some (.slice A0_0 l0_0.length c0_0) := (blk_cell BK831.out 0).trans rfl; have hfz12_0 := blk_frozen BK831.out 0) | ((with_reducible refine gate_callee (f := 86) rfl ?_); refine goesL_ (some 7) rfl rfl Tryd.func86 (by kernel_rfl) rfl #[.agg #[.slice A0_0 l0_0.length c0_0]] rfl (by (try simp only [List.map_toArray, List.map_cons, List.map_nil]); first | done | rfl | (simp only [List.length_drop, List.length_take]; rfl)) ?_; (with_reducible refine (impl_Trie_prefixes.calls k _ _ l0_0 t832 t835 _ ?side1 ?side2 A2.out).mono ?_); (case side1 => repeat (first | exact (Kd.C_below HR0_0.out HB.out) | (with_reducible refine Kd.C_alloc ?_ _) | (with_reducible refine Kd.C_drewN ?_ _) | (with_reducible refine Kd.C_drew ?_))); (case side2 => exact HC0_0.out); rintro e w13 ⟨v833, rfl, ho0, hb⟩; refine ⟨_, rfl, ?_⟩; have n0_ := Aside0.mk (Kd.R_lower ho0 (below_size (by repeat (first | (with_reducible first | exact HB.out | apply below_alloc | apply pw_below_drewN | apply below_drew1 | refine below_set ?_ GE831.out) | exact HB.out)))); have n1_ := Aside0.mk (blk_below (g := gb831) (o := .cells #[.slice A0_0 l0_0.length c0_0] 26 (0, 0)) (by (with_reducible repeat (first | refine blk_drewN ?_ _ | refine blk_drew ?_ | refine blk_alloc ?_ _)); exact BK831.out) hb); have n2_ := Aside0.mk (below_step (by repeat (first | (with_reducible first | exact HB.out | apply below_alloc | apply pw_below_drewN | apply below_drew1 | refine below_set ?_ GE831.out) | exact HB.out)) hb); clear BK831; clear HB; have HO834 := n0_; have BK831 := n1_; have HB := n2_; clear n0_ n1_ n2_; (try clear hb); (try clear hb2); (try clear hk); (try clear hi); (try clear ho0); have hcz14_0 : w13.cell? ⟨gb831, 0, none⟩ = some (.slice A0_0 l0_0.length c0_0) := (blk_cell BK831.out 0).trans rfl; have hfz14_0 := blk_frozen BK831.out 0) | ((with_reducible refine gate_callee (f := 57) rfl ?_); refine goesL_ (some 11) rfl rfl Tryd.func57 (by kernel_rfl) rfl #[.agg #[.slice A0_0 l0_0.length c0_0]] rfl (by (try simp only [List.map_toArray, List.map_cons, List.map_nil]); first | done | rfl | (simp only [List.length_drop, List.length_take]; rfl)) ?_; (with_reducible refine (impl_Trie_words.calls k _ _ l0_0 t836 _ ?side1 ?side2 A3.out).mono ?_); (case side1 => repeat (first | exact (Kd.C_below HR0_0.out HB.out) | (with_reducible refine Kd.C_alloc ?_ _) | (with_reducible refine Kd.C_drewN ?_ _) | (with_reducible refine Kd.C_drew ?_))); (case side2 => exact HC0_0.out); rintro e w15 ⟨v837, rfl, ho0, hb⟩; refine ⟨_, rfl, ?_⟩; have n0_ := Aside0.mk (Kd.R_elder' (by (with_reducible repeat (first | apply Kd.R_alloc | apply Kd.R_drewN | apply Kd.R_drew)); exact HO834.out) (Kd.R_base ho0) hb); have n1_ := Aside0.mk (Kd.R_lower (Kd.R_new' ho0 (Kd.R_lt (by (with_reducible repeat (first | apply Kd.R_alloc | apply Kd.R_drewN | apply Kd.R_drew)); exact HO834.out))) (below_size (by repeat (first | (with_reducible first | exact HB.out | apply below_alloc | apply pw_below_drewN | apply below_drew1 | refine below_set ?_ GE831.out) | exact HB.out)))); have n2_ := Aside0.mk (blk_below (g := gb831) (o := .cells #[.slice A0_0 l0_0.length c0_0] 26 (0, 0)) (by (with_reducible repeat (first | refine blk_drewN ?_ _ | refine blk_drew ?_ | refine blk_alloc ?_ _)); exact BK831.out) hb); have n3_ := Aside0.mk (below_step (by repeat (first | (with_reducible first | exact HB.out | apply below_alloc | apply pw_below_drewN | apply below_drew1 | refine below_set ?_ GE831.out) | exact HB.out)) hb); clear HO834; clear BK831; clear HB; have HO834 := n0_; have HO838 := n1_; have BK831 := n2_; have HB := n3_; clear n0_ n1_ n2_ n3_; (try clear hb); (try clear hb2); (try clear hk); (try clear hi); (try clear ho0); obtain ⟨Ao16, co16, eo16⟩ := Kd.R_slice HO838.out; subst eo16))
    go_ret
    exact ⟨_, by first | rfl | (simp [errW_none, errW_some] <;> rfl) | (simp [*, errW_none, errW_some] <;> rfl), by (with_reducible repeat (first | apply Kd.R_alloc | apply Kd.R_drewN | apply Kd.R_drew)); exact Kd.R_mono HO834.out (fun _ hk => trivial), by repeat (first | (with_reducible first | exact HB.out | apply below_alloc | apply pw_below_drewN | apply below_drew1 | refine below_set ?_ GE831.out) | exact HB.out)⟩
def impl_CloseTrie.f (k : Nat) (l0_0 : List (S76)) : Option ((List (S76)) × Bool) := (impl_isTrie.f k l0_0).bind fun t841 => (if t841 = true then ((impl_Trie_closed.f k l0_0).bind fun t842 => ((impl_madeOf.f t842).bind fun bt845 => (some (bt845.1, bt845.2)))) else (some (([] : List (S76)), false)))
set_option maxHeartbeats 8000000 in
set_option maxRecDepth 100000 in
theorem impl_CloseTrie.calls (k : Nat) (A0_0 : Option Addr) (c0_0 : Nat) (l0_0 : List (S76)) (r1 : List (S76)) (r2 : Bool) (w : World) (hr0_0 : Kd.C k76 w A0_0 l0_0.length l0_0) (hc0_0 : l0_0.length ≤ c0_0) (h : impl_CloseTrie.f k l0_0 = some (r1, r2)) :
    Calls Tryd.prog 36 #[.agg #[.slice A0_0 l0_0.length c0_0]] w fun e w' => ∃ v0_ : Value, e = .returned (.tuple #[.agg #[v0_], .bool r2]) ∧ Kd.R k76 76 w' w.heap.size (fun _ => True) v0_ r1 ∧ Below w.heap.size w w' := by
  have hu26 := Tryd.underlying26
  have HR0_0 := Aside0.mk hr0_0
  have HC0_0 := Aside0.mk hc0_0
  clear hr0_0 hc0_0
  have HB := Aside0.mk (Below.refl w.heap.size w)
  have H : ((impl_isTrie.f k l0_0).bind fun t841 => (if t841 = true then ((impl_Trie_closed.f k l0_0).bind fun t842 => ((impl_madeOf.f t842).bind fun bt845 => (some (bt845.1, bt845.2)))) else (some (([] : List (S76)), false)))) = some (r1, r2) := h
  clear h
  replace H := Option.bind_eq_some_iff.mp H
  obtain ⟨t841, A20, H⟩ := H
  replace H : (if t841 = true then ((impl_Trie_closed.f k l0_0).bind fun t842 => ((impl_madeOf.f t842).bind fun bt845 => (some (bt845.1, bt845.2)))) else (some (([] : List (S76)), false))) = some (r1, r2) := H
  have A2 := Aside0.mk A20
  clear A20
  by_cases c3 : t841 = true
  · subst c3
    have H1 : ((impl_Trie_closed.f k l0_0).bind fun t842 => ((impl_madeOf.f t842).bind fun bt845 => (some (bt845.1, bt845.2)))) = some (r1, r2) := by rw [if_pos rfl] at H; exact H
    clear H
    have H := H1
    clear H1
    replace H := Option.bind_eq_some_iff.mp H
    obtain ⟨t842, A40, H⟩ := H
    replace H : ((impl_madeOf.f t842).bind fun bt845 => (some (bt845.1, bt845.2))) = some (r1, r2) := H
    have A4 := Aside0.mk A40
    clear A40
    replace H := Option.bind_eq_some_iff.mp H
    obtain ⟨⟨t845, t848⟩, A50, H⟩ := H
    replace H : (some (t845, t848)) = some (r1, r2) := H
    have A5 := Aside0.mk A50
    clear A50
    simp only [Option.some.injEq, Prod.mk.injEq] at H
    obtain ⟨rfl, rfl⟩ := H
    go_enter Tryd.func36, Tryd.ntmps36
    go_wp2_with (first | ((with_reducible refine gate_dst (N := 1) rfl ?_); refine box_event ?hg (N := 1) ?hd (cs := #[.slice A0_0 l0_0.length c0_0]) (t := 26) ?hr ?_; (case hd => rfl); (case hg => rfl); (case hr => first | (go_simp; done) | (go_simp; rfl)); intro gb839 hg w6 hbox hb; have n0_ := Aside0.mk (below_step (by repeat (first | (with_reducible first | exact HB.out | apply below_alloc | apply pw_below_drewN | apply below_drew1) | exact HB.out)) hb); have n1_ := Aside0.mk (hbox); have n2_ := Aside0.mk ((by rw [hg]; exact (below_size (by repeat (first | (with_reducible first | exact HB.out | apply below_alloc | apply pw_below_drewN | apply below_drew1) | exact HB.out))) : w.heap.size ≤ gb839)); have n3_ := Aside0.mk ((by rw [hg]; exact (below_size (by repeat (first | (with_reducible first | exact HB.out | apply below_alloc | apply pw_below_drewN | apply below_drew1) | exact HB.out))) : w.heap.size ≤ gb839)); clear HB; have HB := n0_; have BK839 := n1_; have GW839 := n2_; have GE839 := n3_; clear n0_ n1_ n2_ n3_; clear hb hbox hg) | ((with_reducible refine gate_dst (N := 2) rfl ?_); refine box_event ?hg (N := 2) ?hd (cs := #[.slice none 0 0]) (t := 26) ?hr ?_; (case hd => rfl); (case hg => rfl); (case hr => first | (go_simp; done) | (go_simp; rfl)); intro gb840 hg w7 hbox hb; have n0_ := Aside0.mk (blk_below (g := gb839) (o := .cells #[.slice A0_0 l0_0.length c0_0] 26 (0, 0)) (by (with_reducible repeat (first | refine blk_drewN ?_ _ | refine blk_drew ?_ | refine blk_alloc ?_ _)); exact BK839.out) hb); have n1_ := Aside0.mk (below_step (by repeat (first | (with_reducible first | exact HB.out | apply below_alloc | apply pw_below_drewN | apply below_drew1 | refine below_set ?_ GE839.out) | exact HB.out)) hb); have n2_ := Aside0.mk (hbox); have n3_ := Aside0.mk ((by rw [hg]; exact (below_size (by repeat (first | (with_reducible first | exact HB.out | apply below_alloc | apply pw_below_drewN | apply below_drew1 | refine below_set ?_ GE839.out) | exact HB.out))) : w.heap.size ≤ gb840)); have n4_ := Aside0.mk ((by rw [hg]; exact (below_size (by repeat (first | (with_reducible first | exact HB.out | apply below_alloc | apply pw_below_drewN | apply below_drew1 | refine below_set ?_ GE839.out) | exact HB.out))) : w.heap.size ≤ gb840)); have n5_ := Aside0.mk ((by rw [hg]; exact Nat.ne_of_lt (blk_lt (g := gb839) (o := .cells #[.slice A0_0 l0_0.length c0_0] 26 (0, 0)) (by (with_reducible repeat (first | refine blk_drewN ?_ _ | refine blk_drew ?_ | refine blk_alloc ?_ _)); exact BK839.out)) : gb839 ≠ gb840)); have n6_ := Aside0.mk ((by rw [hg]; exact Nat.ne_of_gt (blk_lt (g := gb839) (o := .cells #[.slice A0_0 l0_0.length c0_0] 26 (0, 0)) (by (with_reducible repeat (first | refine blk_drewN ?_ _ | refine blk_drew ?_ | refine blk_alloc ?_ _)); exact BK839.out)) : gb840 ≠ gb839)); clear BK839; clear HB; have BK839 := n0_; have HB := n1_; have BK840 := n2_; have GW840 := n3_; have GE840 := n4_; have NB839_840 := n5_; have NB840_839 := n6_; clear n0_ n1_ n2_ n3_ n4_ n5_ n6_; clear hb hbox hg; have hnb8 := NB839_840.out; have hnc8 := NB840_839.out; have hcz9_0 : w7.cell? ⟨gb839, 0, none⟩ = some (.slice A0_0 l0_0.length c0_0) := (blk_cell BK839.out 0).trans rfl; have hfz9_0 := blk_frozen BK839.out 0) | ((with_reducible refine gate_callee (f := 68) rfl ?_); refine goesL_ (some 5) rfl rfl Tryd.func68 (by kernel_rfl) rfl #[.agg #[.slice A0_0 l0_0.length c0_0]] rfl (by (try simp only [List.map_toArray, List.map_cons, List.map_nil]); first | done | rfl | (simp only [List.length_drop, List.length_take]; rfl)) ?_; (with_reducible refine (impl_isTrie.calls k _ _ l0_0 true _ ?side1 ?side2 A2.out).mono ?_); (case side1 => repeat (first | exact (Kd.C_below HR0_0.out HB.out) | (with_reducible refine Kd.C_alloc ?_ _) | (with_reducible refine Kd.C_drewN ?_ _) | (with_reducible refine Kd.C_drew ?_))); (case side2 => exact HC0_0.out); rintro e w10 ⟨rfl, hb⟩; refine ⟨_, rfl, ?_⟩; have n0_ := Aside0.mk (blk_below (g := gb839) (o := .cells #[.slice A0_0 l0_0.length c0_0] 26 (0, 0)) (by (with_reducible repeat (first | refine blk_drewN ?_ _ | refine blk_drew ?_ | refine blk_alloc ?_ _)); exact BK839.out) hb); have n1_ := Aside0.mk (blk_below (g := gb840) (o := .cells #[.slice none 0 0] 26 (0, 0)) (by (with_reducible repeat (first | refine blk_drewN ?_ _ | refine blk_drew ?_ | refine blk_alloc ?_ _)); exact BK840.out) hb); have n2_ := Aside0.mk (below_step (by repeat (first | (with_reducible first | exact HB.out | apply below_alloc | apply pw_below_drewN | apply below_drew1 | refine below_set ?_ GE839.out | refine below_set ?_ GE840.out) | exact HB.out)) hb); clear BK839; clear BK840; clear HB; have BK839 := n0_; have BK840 := n1_; have HB := n2_; clear n0_ n1_ n2_; (try clear hb); (try clear hb2); (try clear hk); (try clear hi); have hcz11_0 : w10.cell? ⟨gb839, 0, none⟩ = some (.slice A0_0 l0_0.length c0_0) := (blk_cell BK839.out 0).trans rfl; have hfz11_0 := blk_frozen BK839.out 0) | ((with_reducible refine gate_callee (f := 71) rfl ?_); refine goesL_ (some 9) rfl rfl Tryd.func71 (by kernel_rfl) rfl #[.agg #[.slice A0_0 l0_0.length c0_0]] rfl (by (try simp only [List.map_toArray, List.map_cons, List.map_nil]); first | done | rfl | (simp only [List.length_drop, List.length_take]; rfl)) ?_; (with_reducible refine (impl_Trie_closed.calls k _ _ l0_0 t842 _ ?side1 ?side2 A4.out).mono ?_); (case side1 => repeat (first | exact (Kd.C_below HR0_0.out HB.out) | (with_reducible refine Kd.C_alloc ?_ _) | (with_reducible refine Kd.C_drewN ?_ _) | (with_reducible refine Kd.C_drew ?_))); (case side2 => exact HC0_0.out); rintro e w12 ⟨v843, rfl, ho0, hb⟩; refine ⟨_, rfl, ?_⟩; have n0_ := Aside0.mk (Kd.R_lower ho0 (below_size (by repeat (first | (with_reducible first | exact HB.out | apply below_alloc | apply pw_below_drewN | apply below_drew1 | refine below_set ?_ GE839.out | refine below_set ?_ GE840.out) | exact HB.out)))); have n1_ := Aside0.mk (blk_below (g := gb839) (o := .cells #[.slice A0_0 l0_0.length c0_0] 26 (0, 0)) (by (with_reducible repeat (first | refine blk_drewN ?_ _ | refine blk_drew ?_ | refine blk_alloc ?_ _)); exact BK839.out) hb); have n2_ := Aside0.mk (blk_below (g := gb840) (o := .cells #[.slice none 0 0] 26 (0, 0)) (by (with_reducible repeat (first | refine blk_drewN ?_ _ | refine blk_drew ?_ | refine blk_alloc ?_ _)); exact BK840.out) hb); have n3_ := Aside0.mk (below_step (by repeat (first | (with_reducible first | exact HB.out | apply below_alloc | apply pw_below_drewN | apply below_drew1 | refine below_set ?_ GE839.out | refine below_set ?_ GE840.out) | exact HB.out)) hb); clear BK839; clear BK840; clear HB; have HO844 := n0_; have BK839 := n1_; have BK840 := n2_; have HB := n3_; clear n0_ n1_ n2_ n3_; (try clear hb); (try clear hb2); (try clear hk); (try clear hi); (try clear ho0); obtain ⟨Ao13, co13, eo13⟩ := Kd.R_slice HO844.out; subst eo13) | ((with_reducible refine gate_callee (f := 69) rfl ?_); refine goesL_ (some 10) rfl rfl Tryd.func69 (by kernel_rfl) rfl #[.slice Ao13 t842.length co13] rfl (by (try simp only [List.map_toArray, List.map_cons, List.map_nil]); first | done | rfl | (simp only [List.length_drop, List.length_take]; rfl)) ?_; (with_reducible refine (impl_madeOf.calls _ _ t842 t845 t848 _ ?side1 ?side2 A5.out).mono ?_); (case side1 => repeat (first | exact (Kd.R_reads' HO844.out).2.2 | (with_reducible refine Kd.C_alloc ?_ _) | (with_reducible refine Kd.C_drewN ?_ _) | (with_reducible refine Kd.C_drew ?_))); (case side2 => exact (Kd.R_reads' HO844.out).2.1); rintro e w14 ⟨v846, rfl, ho0, hb⟩; refine ⟨_, rfl, ?_⟩; have n0_ := Aside0.mk (Kd.R_below (by (with_reducible repeat (first | apply Kd.R_alloc | apply Kd.R_drewN | apply Kd.R_drew)); exact HO844.out) hb); have n1_ := Aside0.mk (Kd.R_lower ho0 (below_size (by repeat (first | (with_reducible first | exact HB.out | apply below_alloc | apply pw_below_drewN | apply below_drew1 | refine below_set ?_ GE839.out | refine below_set ?_ GE840.out) | exact HB.out)))); have n2_ := Aside0.mk (blk_below (g := gb839) (o := .cells #[.slice A0_0 l0_0.length c0_0] 26 (0, 0)) (by (with_reducible repeat (first | refine blk_drewN ?_ _ | refine blk_drew ?_ | refine blk_alloc ?_ _)); exact BK839.out) hb); have n3_ := Aside0.mk (blk_below (g := gb840) (o := .cells #[.slice none 0 0] 26 (0, 0)) (by (with_reducible repeat (first | refine blk_drewN ?_ _ | refine blk_drew ?_ | refine blk_alloc ?_ _)); exact BK840.out) hb); have n4_ := Aside0.mk (below_step (by repeat (first | (with_reducible first | exact HB.out | apply below_alloc | apply pw_below_drewN | apply below_drew1 | refine below_set ?_ GE839.out | refine below_set ?_ GE840.out) | exact HB.out)) hb); clear HO844; clear BK839; clear BK840; clear HB; have HO844 := n0_; have HO847 := n1_; have BK839 := n2_; have BK840 := n3_; have HB := n4_; clear n0_ n1_ n2_ n3_ n4_; (try clear hb); (try clear hb2); (try clear hk); (try clear hi); (try clear ho0); obtain ⟨Ao15, co15, eo15⟩ := Kd.R_slice HO847.out; subst eo15; have hcz16_0 : w14.cell? ⟨gb840, 0, none⟩ = some (.slice none 0 0) := (blk_cell BK840.out 0).trans rfl; have hfz16_0 := blk_frozen BK840.out 0))
    refine bodyPost_ret (results_ct rfl _ _ gb840 26 #[.slice Ao15 t845.length co15] (0, 0) _ rfl (by (with_reducible repeat (first | refine blk_drewN ?_ _ | refine blk_drew ?_ | refine blk_alloc ?_ _)); refine blk_put (cs := #[.slice none 0 0]) ?_ 0 _ rfl; (with_reducible repeat (first | refine blk_drewN ?_ _ | refine blk_drew ?_ | refine blk_alloc ?_ _)); exact BK840.out) Tryd.underlying26 rfl (by kernel_rfl)) rfl ?_
    exact ⟨_, by first | rfl | (simp [errW_none, errW_some] <;> rfl) | (simp [*, errW_none, errW_some] <;> rfl), by (with_reducible repeat (first | apply Kd.R_alloc | apply Kd.R_drewN | apply Kd.R_drew)); exact Kd.R_mono (R_same_ (Kd.R_far (p := ⟨gb840, 0, none⟩) (Kd.R_types HO847.out BK840.out (by decide)) (fun _ hk => hk.2) (.slice Ao15 t845.length co15)) rfl) (fun _ hk => trivial), by repeat (first | (with_reducible first | exact HB.out | apply below_alloc | apply pw_below_drewN | apply below_drew1 | refine below_set ?_ GE839.out | refine below_set ?_ GE840.out) | exact HB.out)⟩
  · replace c3 := Bool.eq_false_iff.mpr c3
    subst c3
    have H1 : (some (([] : List (S76)), false)) = some (r1, r2) := by rw [if_neg (show ¬ (false = true) by decide)] at H; exact H
    clear H
    have H := H1
    clear H1
    simp only [Option.some.injEq, Prod.mk.injEq] at H
    obtain ⟨rfl, rfl⟩ := H
    go_enter Tryd.func36, Tryd.ntmps36
    go_wp2_with (first | ((with_reducible refine gate_dst (N := 1) rfl ?_); refine box_event ?hg (N := 1) ?hd (cs := #[.slice A0_0 l0_0.length c0_0]) (t := 26) ?hr ?_; (case hd => rfl); (case hg => rfl); (case hr => first | (go_simp; done) | (go_simp; rfl)); intro gb839 hg w17 hbox hb; have n0_ := Aside0.mk (below_step (by repeat (first | (with_reducible first | exact HB.out | apply below_alloc | apply pw_below_drewN | apply below_drew1) | exact HB.out)) hb); have n1_ := Aside0.mk (hbox); have n2_ := Aside0.mk ((by rw [hg]; exact (below_size (by repeat (first | (with_reducible first | exact HB.out | apply below_alloc | apply pw_below_drewN | apply below_drew1) | exact HB.out))) : w.heap.size ≤ gb839)); have n3_ := Aside0.mk ((by rw [hg]; exact (below_size (by repeat (first | (with_reducible first | exact HB.out | apply below_alloc | apply pw_below_drewN | apply below_drew1) | exact HB.out))) : w.heap.size ≤ gb839)); clear HB; have HB := n0_; have BK839 := n1_; have GW839 := n2_; have GE839 := n3_; clear n0_ n1_ n2_ n3_; clear hb hbox hg) | ((with_reducible refine gate_dst (N := 2) rfl ?_); refine box_event ?hg (N := 2) ?hd (cs := #[.slice none 0 0]) (t := 26) ?hr ?_; (case hd => rfl); (case hg => rfl); (case hr => first | (go_simp; done) | (go_simp; rfl)); intro gb840 hg w18 hbox hb; have n0_ := Aside0.mk (blk_below (g := gb839) (o := .cells #[.slice A0_0 l0_0.length c0_0] 26 (0, 0)) (by (with_reducible repeat (first | refine blk_drewN ?_ _ | refine blk_drew ?_ | refine blk_alloc ?_ _)); exact BK839.out) hb); have n1_ := Aside0.mk (below_step (by repeat (first | (with_reducible first | exact HB.out | apply below_alloc | apply pw_below_drewN | apply below_drew1 | refine below_set ?_ GE839.out) | exact HB.out)) hb); have n2_ := Aside0.mk (hbox); have n3_ := Aside0.mk ((by rw [hg]; exact (below_size (by repeat (first | (with_reducible first | exact HB.out | apply below_alloc | apply pw_below_drewN | apply below_drew1 | refine below_set ?_ GE839.out) | exact HB.out))) : w.heap.size ≤ gb840)); have n4_ := Aside0.mk ((by rw [hg]; exact (below_size (by repeat (first | (with_reducible first | exact HB.out | apply below_alloc | apply pw_below_drewN | apply below_drew1 | refine below_set ?_ GE839.out) | exact HB.out))) : w.heap.size ≤ gb840)); have n5_ := Aside0.mk ((by rw [hg]; exact Nat.ne_of_lt (blk_lt (g := gb839) (o := .cells #[.slice A0_0 l0_0.length c0_0] 26 (0, 0)) (by (with_reducible repeat (first | refine blk_drewN ?_ _ | refine blk_drew ?_ | refine blk_alloc ?_ _)); exact BK839.out)) : gb839 ≠ gb840)); have n6_ := Aside0.mk ((by rw [hg]; exact Nat.ne_of_gt (blk_lt (g := gb839) (o := .cells #[.slice A0_0 l0_0.length c0_0] 26 (0, 0)) (by (with_reducible repeat (first | refine blk_drewN ?_ _ | refine blk_drew ?_ | refine blk_alloc ?_ _)); exact BK839.out)) : gb840 ≠ gb839)); clear BK839; clear HB; have BK839 := n0_; have HB := n1_; have BK840 := n2_; have GW840 := n3_; have GE840 := n4_; have NB839_840 := n5_; have NB840_839 := n6_; clear n0_ n1_ n2_ n3_ n4_ n5_ n6_; clear hb hbox hg; have hnb19 := NB839_840.out; have hnc19 := NB840_839.out; have hcz20_0 : w18.cell? ⟨gb839, 0, none⟩ = some (.slice A0_0 l0_0.length c0_0) := (blk_cell BK839.out 0).trans rfl; have hfz20_0 := blk_frozen BK839.out 0) | ((with_reducible refine gate_callee (f := 68) rfl ?_); refine goesL_ (some 5) rfl rfl Tryd.func68 (by kernel_rfl) rfl #[.agg #[.slice A0_0 l0_0.length c0_0]] rfl (by (try simp only [List.map_toArray, List.map_cons, List.map_nil]); first | done | rfl | (simp only [List.length_drop, List.length_take]; rfl)) ?_; (with_reducible refine (impl_isTrie.calls k _ _ l0_0 false _ ?side1 ?side2 A2.out).mono ?_); (case side1 => repeat (first | exact (Kd.C_below HR0_0.out HB.out) | (with_reducible refine Kd.C_alloc ?_ _) | (with_reducible refine Kd.C_drewN ?_ _) | (with_reducible refine Kd.C_drew ?_))); (case side2 => exact HC0_0.out); rintro e w21 ⟨rfl, hb⟩; refine ⟨_, rfl, ?_⟩; have n0_ := Aside0.mk (blk_below (g := gb839) (o := .cells #[.slice A0_0 l0_0.length c0_0] 26 (0, 0)) (by (with_reducible repeat (first | refine blk_drewN ?_ _ | refine blk_drew ?_ | refine blk_alloc ?_ _)); exact BK839.out) hb); have n1_ := Aside0.mk (blk_below (g := gb840) (o := .cells #[.slice none 0 0] 26 (0, 0)) (by (with_reducible repeat (first | refine blk_drewN ?_ _ | refine blk_drew ?_ | refine blk_alloc ?_ _)); exact BK840.out) hb); have n2_ := Aside0.mk (below_step (by repeat (first | (with_reducible first | exact HB.out | apply below_alloc | apply pw_below_drewN | apply below_drew1 | refine below_set ?_ GE839.out | refine below_set ?_ GE840.out) | exact HB.out)) hb); clear BK839; clear BK840; clear HB; have BK839 := n0_; have BK840 := n1_; have HB := n2_; clear n0_ n1_ n2_; (try clear hb); (try clear hb2); (try clear hk); (try clear hi); have hcz22_0 : w21.cell? ⟨gb840, 0, none⟩ = some (.slice none 0 0) := (blk_cell BK840.out 0).trans rfl; have hfz22_0 := blk_frozen BK840.out 0))
    refine bodyPost_ret (results_ct rfl _ _ gb840 26 #[.slice none 0 0] (0, 0) _ rfl (by (with_reducible repeat (first | refine blk_drewN ?_ _ | refine blk_drew ?_ | refine blk_alloc ?_ _)); refine blk_put (cs := #[.slice none 0 0]) ?_ 0 _ rfl; (with_reducible repeat (first | refine blk_drewN ?_ _ | refine blk_drew ?_ | refine blk_alloc ?_ _)); exact BK840.out) Tryd.underlying26 rfl (by kernel_rfl)) rfl ?_
    exact ⟨_, by first | rfl | (simp [errW_none, errW_some] <;> rfl) | (simp [*, errW_none, errW_some] <;> rfl), by first | exact Kd.R_nil _ _ _ _ _ | exact Kd.N_nil _ _ _ _ _ | exact Kd.V_nil _ _ _ _ _ | exact Kd.Q_nil _ _ _ _ _ | exact Kd.S_nil _ _ _ _ _, by repeat (first | (with_reducible first | exact HB.out | apply below_alloc | apply pw_below_drewN | apply below_drew1 | refine below_set ?_ GE839.out | refine below_set ?_ GE840.out) | exact HB.out)⟩
end Go.Proofs.YtefcbnlljpdjnaaDoor.Q
namespace Go.Proofs.YtefcbnlljpdjnaaDoor.Q
open Go.RowKit Go.Proofs.YtefcbnlljpdjnaaDoorW.PrintWords Go.Proofs.YtefcbnlljpdjnaaDoorW.PrintLast Go.Proofs.YtefcbnlljpdjnaaDoorW.PrintMore
attribute [local go_sem] run_field_25 run_field_26 run_field_35 run_field_36 isSome_setCell max2_int min2_int max_two min_two max_three min_three max_four min_four   -- for this text's walks alone
set_option linter.unusedVariables false
set_option linter.unusedSimpArgs false
mutual
def laws_FnExactCloseTrie.j0 : Nat → Bool → Bool → Bool → List (S81) → List (S76) → List (S76) → List (S76) → Option (Bool)
  | 0, _, _, _, _, _, _, _ => none
  | k + 1, x5, x8, x40, x850000, x859000, x863000, x868000 => if x40 = true then (some false) else ((laws_toTrie.f k x850000).bind fun t869 => ((laws_eqTrie.f k x863000 t869).bind fun t872 => (if t872 = true then ((laws_markTrie.f k x863000 1).bind fun bt873 => (if bt873.1 < 0 then (laws_FnExactCloseTrie.j1 k x5 true x850000 x859000 x868000) else ((laws_eqTrie.f k x868000 x859000).bind fun t875 => (if t875 = true then (laws_FnExactCloseTrie.j1 k x5 (x8 != x5) x850000 x859000 x868000) else (laws_FnExactCloseTrie.j1 k x5 true x850000 x859000 x868000))))) else (some false))))
def laws_FnExactCloseTrie.j1 : Nat → Bool → Bool → List (S81) → List (S76) → List (S76) → Option (Bool)
  | 0, _, _, _, _, _ => none
  | k + 1, x5, x61, x850000, x859000, x868000 => if x61 = true then (some false) else ((laws_markTrie.f k x868000 1).bind fun bt876 => ((laws_heldTrie.f k bt876.2 1).bind fun t878 => (if t878 < 0 then (some false) else (if t878 = bt876.1 then ((laws_toTrie.f k x850000).bind fun t879 => ((impl_CloseTrie.f k t879).bind fun bt882 => ((laws_eqTrie.f k bt882.1 x859000).bind fun t887 => (if t887 = true then (laws_FnExactCloseTrie.j2 k bt876.1 (bt882.2 != x5) bt876.2) else (laws_FnExactCloseTrie.j2 k bt876.1 true bt876.2))))) else (some false)))))
def laws_FnExactCloseTrie.j2 : Nat → Int → Bool → List (S76) → Option (Bool)
  | 0, _, _, _ => none
  | k + 1, x10, x87, x868000 => if x87 = true then (some false) else ((laws_heldTrie.f k x868000 1).bind fun t888 => (if t888 < 0 then (some false) else (if t888 = x10 then (some true) else (some false))))
end
def laws_FnExactCloseTrie.f (k : Nat) (l0_0 : List (S81)) : Option (Bool) := (laws_szTrie.f l0_0 1048576).bind fun t850 => (if t850 < 0 then (some true) else ((laws_toTrie.f k l0_0).bind fun t851 => ((spec_CloseTrie.f k t851).bind fun bt854 => ((laws_toTrie.f k l0_0).bind fun t859 => ((impl_CloseTrie.f k t859).bind fun bt863 => ((laws_eqTrie.f k bt863.1 bt854.1).bind fun t868 => (if t868 = true then (laws_FnExactCloseTrie.j0 k bt854.2 bt863.2 (bt863.2 != bt854.2) l0_0 bt854.1 t859 bt863.1) else (laws_FnExactCloseTrie.j0 k bt854.2 bt863.2 true l0_0 bt854.1 t859 bt863.1))))))))
set_option maxHeartbeats 8000000 in
set_option maxRecDepth 100000 in
theorem laws_FnExactCloseTrie.calls (k : Nat) (A0_0 : Option Addr) (c0_0 : Nat) (l0_0 : List (S81)) (r : Bool) (w : World) (hr0_0 : Kd.C k81 w A0_0 l0_0.length l0_0) (hc0_0 : l0_0.length ≤ c0_0) (h : laws_FnExactCloseTrie.f k l0_0 = some true) :
    Calls Tryd.prog 10 #[.agg #[.slice A0_0 l0_0.length c0_0]] w fun e w' => e = .returned (.bool true) ∧ Below w.heap.size w w' := by
  have hu36 := Tryd.underlying36
  have hu26 := Tryd.underlying26
  have HR0_0 := Aside0.mk hr0_0
  have HC0_0 := Aside0.mk hc0_0
  clear hr0_0 hc0_0
  have HB := Aside0.mk (Below.refl w.heap.size w)
  have H : ((laws_szTrie.f l0_0 1048576).bind fun t850 => (if t850 < 0 then (some true) else ((laws_toTrie.f k l0_0).bind fun t851 => ((spec_CloseTrie.f k t851).bind fun bt854 => ((laws_toTrie.f k l0_0).bind fun t859 => ((impl_CloseTrie.f k t859).bind fun bt863 => ((laws_eqTrie.f k bt863.1 bt854.1).bind fun t868 => (if t868 = true then (laws_FnExactCloseTrie.j0 k bt854.2 bt863.2 (bt863.2 != bt854.2) l0_0 bt854.1 t859 bt863.1) else (laws_FnExactCloseTrie.j0 k bt854.2 bt863.2 true l0_0 bt854.1 t859 bt863.1))))))))) = some true := h
  clear h
  replace H := Option.bind_eq_some_iff.mp H
  obtain ⟨t850, A20, H⟩ := H
  replace H : (if t850 < 0 then (some true) else ((laws_toTrie.f k l0_0).bind fun t851 => ((spec_CloseTrie.f k t851).bind fun bt854 => ((laws_toTrie.f k l0_0).bind fun t859 => ((impl_CloseTrie.f k t859).bind fun bt863 => ((laws_eqTrie.f k bt863.1 bt854.1).bind fun t868 => (if t868 = true then (laws_FnExactCloseTrie.j0 k bt854.2 bt863.2 (bt863.2 != bt854.2) l0_0 bt854.1 t859 bt863.1) else (laws_FnExactCloseTrie.j0 k bt854.2 bt863.2 true l0_0 bt854.1 t859 bt863.1)))))))) = some true := H
  have A2 := Aside0.mk A20
  clear A20
  by_cases c3 : t850 < 0
  · rw [if_pos c3] at H
    have c3b0 : decide (t850 < 0) = true := decide_eq_true c3
    clear c3
    (first | (obtain rfl := Option.some.inj H) | (have hH_ := Option.some.inj H; try simp only [hH_]))
    go_enter Tryd.func10, Tryd.ntmps10
    go_wp2_with (first | ((with_reducible refine gate_dst (N := 1) rfl ?_); refine box_event ?hg (N := 1) ?hd (cs := #[.slice A0_0 l0_0.length c0_0]) (t := 36) ?hr ?_; (case hd => rfl); (case hg => rfl); (case hr => first | (go_simp; done) | (go_simp; rfl)); intro gb849 hg w4 hbox hb; have n0_ := Aside0.mk (below_step (by repeat (first | (with_reducible first | exact HB.out | apply below_alloc | apply pw_below_drewN | apply below_drew1) | exact HB.out)) hb); have n1_ := Aside0.mk (hbox); have n2_ := Aside0.mk ((by rw [hg]; exact (below_size (by repeat (first | (with_reducible first | exact HB.out | apply below_alloc | apply pw_below_drewN | apply below_drew1) | exact HB.out))) : w.heap.size ≤ gb849)); have n3_ := Aside0.mk ((by rw [hg]; exact (below_size (by repeat (first | (with_reducible first | exact HB.out | apply below_alloc | apply pw_below_drewN | apply below_drew1) | exact HB.out))) : w.heap.size ≤ gb849)); clear HB; have HB := n0_; have BK849 := n1_; have GW849 := n2_; have GE849 := n3_; clear n0_ n1_ n2_ n3_; clear hb hbox hg; have hcz5_0 : w4.cell? ⟨gb849, 0, none⟩ = some (.slice A0_0 l0_0.length c0_0) := (blk_cell BK849.out 0).trans rfl; have hfz5_0 := blk_frozen BK849.out 0) | ((with_reducible refine gate_callee (f := 21) rfl ?_); refine goesL_ (some 16) rfl rfl Tryd.func21 (by kernel_rfl) rfl #[.agg #[.slice A0_0 l0_0.length c0_0], .int .i64 1048576] rfl (by (try simp only [List.map_toArray, List.map_cons, List.map_nil]); first | done | rfl | (simp only [List.length_drop, List.length_take]; rfl)) ?_; (with_reducible refine (laws_szTrie.calls _ _ l0_0 1048576 t850 _ ?side1 ?side2 A2.out).mono ?_); (case side1 => repeat (first | exact (Kd.C_below HR0_0.out HB.out) | (with_reducible refine Kd.C_alloc ?_ _) | (with_reducible refine Kd.C_drewN ?_ _) | (with_reducible refine Kd.C_drew ?_))); (case side2 => exact HC0_0.out); rintro e w6 ⟨rfl, hb⟩; refine ⟨_, rfl, ?_⟩; have n0_ := Aside0.mk (blk_below (g := gb849) (o := .cells #[.slice A0_0 l0_0.length c0_0] 36 (0, 0)) (by (with_reducible repeat (first | refine blk_drewN ?_ _ | refine blk_drew ?_ | refine blk_alloc ?_ _)); exact BK849.out) hb); have n1_ := Aside0.mk (below_step (by repeat (first | (with_reducible first | exact HB.out | apply below_alloc | apply pw_below_drewN | apply below_drew1 | refine below_set ?_ GE849.out) | exact HB.out)) hb); clear BK849; clear HB; have BK849 := n0_; have HB := n1_; clear n0_ n1_; (try clear hb); (try clear hb2); (try clear hk); (try clear hi)))
    go_ret
    exact ⟨by first | rfl | (simp [errW_none, errW_some] <;> rfl) | (simp [*, errW_none, errW_some] <;> rfl), by repeat (first | (with_reducible first | exact HB.out | apply below_alloc | apply pw_below_drewN | apply below_drew1 | refine below_set ?_ GE849.out) | exact HB.out)⟩
  · rw [if_neg c3] at H
    have c3b0 : decide (t850 < 0) = false := decide_eq_false c3
    clear c3
    replace H := Option.bind_eq_some_iff.mp H
    obtain ⟨t851, A70, H⟩ := H
    replace H : ((spec_CloseTrie.f k t851).bind fun bt854 => ((laws_toTrie.f k l0_0).bind fun t859 => ((impl_CloseTrie.f k t859).bind fun bt863 => ((laws_eqTrie.f k bt863.1 bt854.1).bind fun t868 => (if t868 = true then (laws_FnExactCloseTrie.j0 k bt854.2 bt863.2 (bt863.2 != bt854.2) l0_0 bt854.1 t859 bt863.1) else (laws_FnExactCloseTrie.j0 k bt854.2 bt863.2 true l0_0 bt854.1 t859 bt863.1)))))) = some true := H
    have A7 := Aside0.mk A70
    clear A70
    replace H := Option.bind_eq_some_iff.mp H
    obtain ⟨⟨t854, t857⟩, A80, H⟩ := H
    replace H : ((laws_toTrie.f k l0_0).bind fun t859 => ((impl_CloseTrie.f k t859).bind fun bt863 => ((laws_eqTrie.f k bt863.1 t854).bind fun t868 => (if t868 = true then (laws_FnExactCloseTrie.j0 k t857 bt863.2 (bt863.2 != t857) l0_0 t854 t859 bt863.1) else (laws_FnExactCloseTrie.j0 k t857 bt863.2 true l0_0 t854 t859 bt863.1))))) = some true := H
    have A8 := Aside0.mk A80
    clear A80
    replace H := Option.bind_eq_some_iff.mp H
    obtain ⟨t859, A90, H⟩ := H
    replace H : ((impl_CloseTrie.f k t859).bind fun bt863 => ((laws_eqTrie.f k bt863.1 t854).bind fun t868 => (if t868 = true then (laws_FnExactCloseTrie.j0 k t857 bt863.2 (bt863.2 != t857) l0_0 t854 t859 bt863.1) else (laws_FnExactCloseTrie.j0 k t857 bt863.2 true l0_0 t854 t859 bt863.1)))) = some true := H
    have A9 := Aside0.mk A90
    clear A90
    replace H := Option.bind_eq_some_iff.mp H
    obtain ⟨⟨t863, t866⟩, A100, H⟩ := H
    replace H : ((laws_eqTrie.f k t863 t854).bind fun t868 => (if t868 = true then (laws_FnExactCloseTrie.j0 k t857 t866 (t866 != t857) l0_0 t854 t859 t863) else (laws_FnExactCloseTrie.j0 k t857 t866 true l0_0 t854 t859 t863))) = some true := H
    have A10 := Aside0.mk A100
    clear A100
    have HC11 := Aside0.mk H
    clear H
    go_enter Tryd.func10, Tryd.ntmps10
    go_upto_region 8 with (first | ((with_reducible refine gate_dst (N := 1) rfl ?_); refine box_event ?hg (N := 1) ?hd (cs := #[.slice A0_0 l0_0.length c0_0]) (t := 36) ?hr ?_; (case hd => rfl); (case hg => rfl); (case hr => first | (go_simp; done) | (go_simp; rfl)); intro gb849 hg w12 hbox hb; have n0_ := Aside0.mk (below_step (by repeat (first | (with_reducible first | exact HB.out | apply below_alloc | apply pw_below_drewN | apply below_drew1) | exact HB.out)) hb); have n1_ := Aside0.mk (hbox); have n2_ := Aside0.mk ((by rw [hg]; exact (below_size (by repeat (first | (with_reducible first | exact HB.out | apply below_alloc | apply pw_below_drewN | apply below_drew1) | exact HB.out))) : w.heap.size ≤ gb849)); have n3_ := Aside0.mk ((by rw [hg]; exact (below_size (by repeat (first | (with_reducible first | exact HB.out | apply below_alloc | apply pw_below_drewN | apply below_drew1) | exact HB.out))) : w.heap.size ≤ gb849)); clear HB; have HB := n0_; have BK849 := n1_; have GW849 := n2_; have GE849 := n3_; clear n0_ n1_ n2_ n3_; clear hb hbox hg; have hcz13_0 : w12.cell? ⟨gb849, 0, none⟩ = some (.slice A0_0 l0_0.length c0_0) := (blk_cell BK849.out 0).trans rfl; have hfz13_0 := blk_frozen BK849.out 0) | ((with_reducible refine gate_callee (f := 21) rfl ?_); refine goesL_ (some 16) rfl rfl Tryd.func21 (by kernel_rfl) rfl #[.agg #[.slice A0_0 l0_0.length c0_0], .int .i64 1048576] rfl (by (try simp only [List.map_toArray, List.map_cons, List.map_nil]); first | done | rfl | (simp only [List.length_drop, List.length_take]; rfl)) ?_; (with_reducible refine (laws_szTrie.calls _ _ l0_0 1048576 t850 _ ?side1 ?side2 A2.out).mono ?_); (case side1 => repeat (first | exact (Kd.C_below HR0_0.out HB.out) | (with_reducible refine Kd.C_alloc ?_ _) | (with_reducible refine Kd.C_drewN ?_ _) | (with_reducible refine Kd.C_drew ?_))); (case side2 => exact HC0_0.out); rintro e w14 ⟨rfl, hb⟩; refine ⟨_, rfl, ?_⟩; have n0_ := Aside0.mk (blk_below (g := gb849) (o := .cells #[.slice A0_0 l0_0.length c0_0] 36 (0, 0)) (by (with_reducible repeat (first | refine blk_drewN ?_ _ | refine blk_drew ?_ | refine blk_alloc ?_ _)); exact BK849.out) hb); have n1_ := Aside0.mk (below_step (by repeat (first | (with_reducible first | exact HB.out | apply below_alloc | apply pw_below_drewN | apply below_drew1 | refine below_set ?_ GE849.out) | exact HB.out)) hb); clear BK849; clear HB; have BK849 := n0_; have HB := n1_; clear n0_ n1_; (try clear hb); (try clear hb2); (try clear hk); (try clear hi); have hcz15_0 : w14.cell? ⟨gb849, 0, none⟩ = some (.slice A0_0 l0_0.length c0_0) := (blk_cell BK849.out 0).trans rfl; have hfz15_0 := blk_frozen BK849.out 0) | ((with_reducible refine gate_callee (f := 23) rfl ?_); refine goesL_ (some 21) rfl rfl Tryd.func23 (by kernel_rfl) rfl #[.agg #[.slice A0_0 l0_0.length c0_0]] rfl (by (try simp only [List.map_toArray, List.map_cons, List.map_nil]); first | done | rfl | (simp only [List.length_drop, List.length_take]; rfl)) ?_; (with_reducible refine (laws_toTrie.calls k _ _ l0_0 t851 _ ?side1 ?side2 A7.out).mono ?_); (case side1 => repeat (first | exact (Kd.C_below HR0_0.out HB.out) | (with_reducible refine Kd.C_alloc ?_ _) | (with_reducible refine Kd.C_drewN ?_ _) | (with_reducible refine Kd.C_drew ?_))); (case side2 => exact HC0_0.out); rintro e w16 ⟨v852, rfl, ho0, hb⟩; refine ⟨_, rfl, ?_⟩; have n0_ := Aside0.mk (Kd.R_lower ho0 (below_size (by repeat (first | (with_reducible first | exact HB.out | apply below_alloc | apply pw_below_drewN | apply below_drew1 | refine below_set ?_ GE849.out) | exact HB.out)))); have n1_ := Aside0.mk (blk_below (g := gb849) (o := .cells #[.slice A0_0 l0_0.length c0_0] 36 (0, 0)) (by (with_reducible repeat (first | refine blk_drewN ?_ _ | refine blk_drew ?_ | refine blk_alloc ?_ _)); exact BK849.out) hb); have n2_ := Aside0.mk (below_step (by repeat (first | (with_reducible first | exact HB.out | apply below_alloc | apply pw_below_drewN | apply below_drew1 | refine below_set ?_ GE849.out) | exact HB.out)) hb); clear BK849; clear HB; have HO853 := n0_; have BK849 := n1_; have HB := n2_; clear n0_ n1_ n2_; (try clear hb); (try clear hb2); (try clear hk); (try clear hi); (try clear ho0); obtain ⟨Ao17, co17, eo17⟩ := Kd.R_slice HO853.out; subst eo17) | ((with_reducible refine gate_callee (f := 35) rfl ?_); refine goesL_ (some 22) rfl rfl Tryd.func35 (by kernel_rfl) rfl #[.agg #[.slice Ao17 t851.length co17]] rfl (by (try simp only [List.map_toArray, List.map_cons, List.map_nil]); first | done | rfl | (simp only [List.length_drop, List.length_take]; rfl)) ?_; (with_reducible refine (spec_CloseTrie.calls k _ _ t851 t854 t857 _ ?side1 ?side2 A8.out).mono ?_); (case side1 => repeat (first | exact (Kd.R_reads' HO853.out).2.2 | (with_reducible refine Kd.C_alloc ?_ _) | (with_reducible refine Kd.C_drewN ?_ _) | (with_reducible refine Kd.C_drew ?_))); (case side2 => exact (Kd.R_reads' HO853.out).2.1); rintro e w18 ⟨v855, rfl, ho0, hb⟩; refine ⟨_, rfl, ?_⟩; have n0_ := Aside0.mk (Kd.R_elder' (by (with_reducible repeat (first | apply Kd.R_alloc | apply Kd.R_drewN | apply Kd.R_drew)); exact HO853.out) (Kd.R_base ho0) hb); have n1_ := Aside0.mk (Kd.R_lower (Kd.R_new' ho0 (Kd.R_lt (by (with_reducible repeat (first | apply Kd.R_alloc | apply Kd.R_drewN | apply Kd.R_drew)); exact HO853.out))) (below_size (by repeat (first | (with_reducible first | exact HB.out | apply below_alloc | apply pw_below_drewN | apply below_drew1 | refine below_set ?_ GE849.out) | exact HB.out)))); have n2_ := Aside0.mk (blk_below (g := gb849) (o := .cells #[.slice A0_0 l0_0.length c0_0] 36 (0, 0)) (by (with_reducible repeat (first | refine blk_drewN ?_ _ | refine blk_drew ?_ | refine blk_alloc ?_ _)); exact BK849.out) hb); have n3_ := Aside0.mk (below_step (by repeat (first | (with_reducible first | exact HB.out | apply below_alloc | apply pw_below_drewN | apply below_drew1 | refine below_set ?_ GE849.out) | exact HB.out)) hb); clear HO853; clear BK849; clear HB; have HO853 := n0_; have HO856 := n1_; have BK849 := n2_; have HB := n3_; clear n0_ n1_ n2_ n3_; (try clear hb); (try clear hb2); (try clear hk); (try clear hi); (try clear ho0)) | ((with_reducible refine gate_dst (N := 4) rfl ?_); refine box_event ?hg (N := 4) ?hd (cs := #[.slice none 0 0]) (t := 26) ?hr ?_; (case hd => rfl); (case hg => rfl); (case hr => first | (go_simp; done) | (go_simp; rfl)); intro gb858 hg w19 hbox hb; have n0_ := Aside0.mk (Kd.R_below (by (with_reducible repeat (first | apply Kd.R_alloc | apply Kd.R_drewN | apply Kd.R_drew)); exact HO853.out) hb); have n1_ := Aside0.mk (Kd.R_below (by (with_reducible repeat (first | apply Kd.R_alloc | apply Kd.R_drewN | apply Kd.R_drew)); exact HO856.out) hb); have n2_ := Aside0.mk (blk_below (g := gb849) (o := .cells #[.slice A0_0 l0_0.length c0_0] 36 (0, 0)) (by (with_reducible repeat (first | refine blk_drewN ?_ _ | refine blk_drew ?_ | refine blk_alloc ?_ _)); exact BK849.out) hb); have n3_ := Aside0.mk (below_step (by repeat (first | (with_reducible first | exact HB.out | apply below_alloc | apply pw_below_drewN | apply below_drew1 | refine below_set ?_ GE849.out) | exact HB.out)) hb); have n4_ := Aside0.mk (hbox); have n5_ := Aside0.mk ((by rw [hg]; exact (below_size (by repeat (first | (with_reducible first | exact HB.out | apply below_alloc | apply pw_below_drewN | apply below_drew1 | refine below_set ?_ GE849.out) | exact HB.out))) : w.heap.size ≤ gb858)); have n6_ := Aside0.mk ((by rw [hg]; exact (below_size (by repeat (first | (with_reducible first | exact HB.out | apply below_alloc | apply pw_below_drewN | apply below_drew1 | refine below_set ?_ GE849.out) | exact HB.out))) : w.heap.size ≤ gb858)); have n7_ := Aside0.mk ((by rw [hg]; exact Nat.ne_of_lt (blk_lt (g := gb849) (o := .cells #[.slice A0_0 l0_0.length c0_0] 36 (0, 0)) (by (with_reducible repeat (first | refine blk_drewN ?_ _ | refine blk_drew ?_ | refine blk_alloc ?_ _)); exact BK849.out)) : gb849 ≠ gb858)); have n8_ := Aside0.mk ((by rw [hg]; exact Nat.ne_of_gt (blk_lt (g := gb849) (o := .cells #[.slice A0_0 l0_0.length c0_0] 36 (0, 0)) (by (with_reducible repeat (first | refine blk_drewN ?_ _ | refine blk_drew ?_ | refine blk_alloc ?_ _)); exact BK849.out)) : gb858 ≠ gb849)); clear HO853; clear HO856; clear BK849; clear HB; have HO853 := n0_; have HO856 := n1_; have BK849 := n2_; have HB := n3_; have BK858 := n4_; have GW858 := n5_; have GE858 := n6_; have NB849_858 := n7_; have NB858_849 := n8_; clear n0_ n1_ n2_ n3_ n4_ n5_ n6_ n7_ n8_; clear hb hbox hg; obtain ⟨Ao20, co20, eo20⟩ := Kd.R_slice HO856.out; subst eo20; have hnb21 := NB858_849.out; have hnc21 := NB849_858.out; have hcz22_0 : w19.cell? ⟨gb858, 0, none⟩ = some (.slice none 0 0) := (blk_cell BK858.out 0).trans rfl; have hfz22_0 := blk_frozen BK858.out 0; have hcz23_0 : w19.cell? ⟨gb849, 0, none⟩ = some (.slice A0_0 l0_0.length c0_0) := (blk_cell BK849.out 0).trans rfl; have hfz23_0 := blk_frozen BK849.out 0) | ((with_reducible refine gate_callee (f := 23) rfl ?_); refine goesL_ (some 26) rfl rfl Tryd.func23 (by kernel_rfl) rfl #[.agg #[.slice A0_0 l0_0.length c0_0]] rfl (by (try simp only [List.map_toArray, List.map_cons, List.map_nil]); first | done | rfl | (simp only [List.length_drop, List.length_take]; rfl)) ?_; (with_reducible refine (laws_toTrie.calls k _ _ l0_0 t859 _ ?side1 ?side2 A9.out).mono ?_); (case side1 => exact Kd.C_below HR0_0.out (by repeat (first | (with_reducible first | exact HB.out | apply below_alloc | apply pw_below_drewN | apply below_drew1 | refine below_set ?_ GE849.out | refine below_set ?_ GE858.out) | exact HB.out))); (case side2 => exact HC0_0.out); rintro e w24 ⟨v860, rfl, ho0, hb⟩; refine ⟨_, rfl, ?_⟩; have n0_ := Aside0.mk (Kd.R_elder' (by (with_reducible repeat (first | apply Kd.R_alloc | apply Kd.R_drewN | apply Kd.R_drew)); exact (Kd.R_mono (R_same_ (Kd.R_far (p := ⟨gb858, 0, none⟩) (Kd.R_types HO853.out BK858.out (by decide)) (fun _ hk => hk.2) (.slice Ao20 t854.length co20)) rfl) (fun _ h_ => h_.1))) (Kd.R_base ho0) hb); have n1_ := Aside0.mk (Kd.R_elder' (by (with_reducible repeat (first | apply Kd.R_alloc | apply Kd.R_drewN | apply Kd.R_drew)); exact (Kd.R_mono (R_same_ (Kd.R_far (p := ⟨gb858, 0, none⟩) (Kd.R_types HO856.out BK858.out (by decide)) (fun _ hk => hk.2) (.slice Ao20 t854.length co20)) rfl) (fun _ h_ => h_.1))) (Kd.R_base ho0) hb); have n2_ := Aside0.mk (Kd.R_lower (Kd.R_new' (Kd.R_new' ho0 (Kd.R_lt (by (with_reducible repeat (first | apply Kd.R_alloc | apply Kd.R_drewN | apply Kd.R_drew)); exact (Kd.R_mono (R_same_ (Kd.R_far (p := ⟨gb858, 0, none⟩) (Kd.R_types HO853.out BK858.out (by decide)) (fun _ hk => hk.2) (.slice Ao20 t854.length co20)) rfl) (fun _ h_ => h_.1))))) (Kd.R_lt (by (with_reducible repeat (first | apply Kd.R_alloc | apply Kd.R_drewN | apply Kd.R_drew)); exact (Kd.R_mono (R_same_ (Kd.R_far (p := ⟨gb858, 0, none⟩) (Kd.R_types HO856.out BK858.out (by decide)) (fun _ hk => hk.2) (.slice Ao20 t854.length co20)) rfl) (fun _ h_ => h_.1))))) (below_size (by repeat (first | (with_reducible first | exact HB.out | apply below_alloc | apply pw_below_drewN | apply below_drew1 | refine below_set ?_ GE849.out | refine below_set ?_ GE858.out) | exact HB.out)))); have n3_ := Aside0.mk (blk_below (g := gb849) (o := .cells #[.slice A0_0 l0_0.length c0_0] 36 (0, 0)) (by (with_reducible repeat (first | refine blk_drewN ?_ _ | refine blk_drew ?_ | refine blk_alloc ?_ _)); refine blk_far ?_ NB849_858.out _; (with_reducible repeat (first | refine blk_drewN ?_ _ | refine blk_drew ?_ | refine blk_alloc ?_ _)); exact BK849.out) hb); have n4_ := Aside0.mk (blk_below (g := gb858) (o := .cells #[.slice Ao20 t854.length co20] 26 (0, 0)) (by (with_reducible repeat (first | refine blk_drewN ?_ _ | refine blk_drew ?_ | refine blk_alloc ?_ _)); refine blk_put (cs := #[.slice none 0 0]) ?_ 0 _ rfl; (with_reducible repeat (first | refine blk_drewN ?_ _ | refine blk_drew ?_ | refine blk_alloc ?_ _)); exact BK858.out) hb); have n5_ := Aside0.mk (below_step (by repeat (first | (with_reducible first | exact HB.out | apply below_alloc | apply pw_below_drewN | apply below_drew1 | refine below_set ?_ GE849.out | refine below_set ?_ GE858.out) | exact HB.out)) hb); clear HO853; clear HO856; clear BK849; clear BK858; clear HB; have HO853 := n0_; have HO856 := n1_; have HO861 := n2_; have BK849 := n3_; have BK858 := n4_; have HB := n5_; clear n0_ n1_ n2_ n3_ n4_ n5_; (try clear hb); (try clear hb2); (try clear hk); (try clear hi); (try clear ho0)) | ((with_reducible refine gate_dst (N := 6) rfl ?_); refine box_event ?hg (N := 6) ?hd (cs := #[.slice none 0 0]) (t := 26) ?hr ?_; (case hd => rfl); (case hg => rfl); (case hr => first | (go_simp; done) | (go_simp; rfl)); intro gb862 hg w25 hbox hb; have n0_ := Aside0.mk (Kd.R_below (by (with_reducible repeat (first | apply Kd.R_alloc | apply Kd.R_drewN | apply Kd.R_drew)); exact HO853.out) hb); have n1_ := Aside0.mk (Kd.R_below (by (with_reducible repeat (first | apply Kd.R_alloc | apply Kd.R_drewN | apply Kd.R_drew)); exact HO856.out) hb); have n2_ := Aside0.mk (Kd.R_below (by (with_reducible repeat (first | apply Kd.R_alloc | apply Kd.R_drewN | apply Kd.R_drew)); exact HO861.out) hb); have n3_ := Aside0.mk (blk_below (g := gb849) (o := .cells #[.slice A0_0 l0_0.length c0_0] 36 (0, 0)) (by (with_reducible repeat (first | refine blk_drewN ?_ _ | refine blk_drew ?_ | refine blk_alloc ?_ _)); exact BK849.out) hb); have n4_ := Aside0.mk (blk_below (g := gb858) (o := .cells #[.slice Ao20 t854.length co20] 26 (0, 0)) (by (with_reducible repeat (first | refine blk_drewN ?_ _ | refine blk_drew ?_ | refine blk_alloc ?_ _)); exact BK858.out) hb); have n5_ := Aside0.mk (below_step (by repeat (first | (with_reducible first | exact HB.out | apply below_alloc | apply pw_below_drewN | apply below_drew1 | refine below_set ?_ GE849.out | refine below_set ?_ GE858.out) | exact HB.out)) hb); have n6_ := Aside0.mk (hbox); have n7_ := Aside0.mk ((by rw [hg]; exact (below_size (by repeat (first | (with_reducible first | exact HB.out | apply below_alloc | apply pw_below_drewN | apply below_drew1 | refine below_set ?_ GE849.out | refine below_set ?_ GE858.out) | exact HB.out))) : w.heap.size ≤ gb862)); have n8_ := Aside0.mk ((by rw [hg]; exact (below_size (by repeat (first | (with_reducible first | exact HB.out | apply below_alloc | apply pw_below_drewN | apply below_drew1 | refine below_set ?_ GE849.out | refine below_set ?_ GE858.out) | exact HB.out))) : w.heap.size ≤ gb862)); have n9_ := Aside0.mk ((by rw [hg]; exact Nat.ne_of_lt (blk_lt (g := gb849) (o := .cells #[.slice A0_0 l0_0.length c0_0] 36 (0, 0)) (by (with_reducible repeat (first | refine blk_drewN ?_ _ | refine blk_drew ?_ | refine blk_alloc ?_ _)); exact BK849.out)) : gb849 ≠ gb862)); have n10_ := Aside0.mk ((by rw [hg]; exact Nat.ne_of_gt (blk_lt (g := gb849) (o := .cells #[.slice A0_0 l0_0.length c0_0] 36 (0, 0)) (by (with_reducible repeat (first | refine blk_drewN ?_ _ | refine blk_drew ?_ | refine blk_alloc ?_ _)); exact BK849.out)) : gb862 ≠ gb849)); have n11_ := Aside0.mk ((by rw [hg]; exact Nat.ne_of_lt (blk_lt (g := gb858) (o := .cells #[.slice Ao20 t854.length co20] 26 (0, 0)) (by (with_reducible repeat (first | refine blk_drewN ?_ _ | refine blk_drew ?_ | refine blk_alloc ?_ _)); exact BK858.out)) : gb858 ≠ gb862)); have n12_ := Aside0.mk ((by rw [hg]; exact Nat.ne_of_gt (blk_lt (g := gb858) (o := .cells #[.slice Ao20 t854.length co20] 26 (0, 0)) (by (with_reducible repeat (first | refine blk_drewN ?_ _ | refine blk_drew ?_ | refine blk_alloc ?_ _)); exact BK858.out)) : gb862 ≠ gb858)); clear HO853; clear HO856; clear HO861; clear BK849; clear BK858; clear HB; have HO853 := n0_; have HO856 := n1_; have HO861 := n2_; have BK849 := n3_; have BK858 := n4_; have HB := n5_; have BK862 := n6_; have GW862 := n7_; have GE862 := n8_; have NB849_862 := n9_; have NB862_849 := n10_; have NB858_862 := n11_; have NB862_858 := n12_; clear n0_ n1_ n2_ n3_ n4_ n5_ n6_ n7_ n8_ n9_ n10_ n11_ n12_; clear hb hbox hg; obtain ⟨Ao26, co26, eo26⟩ := Kd.R_slice HO861.out; subst eo26; have hnb27 := NB862_849.out; have hnc27 := NB849_862.out; have hnb28 := NB862_858.out; have hnc28 := NB858_862.out; have hcz29_0 : w25.cell? ⟨gb862, 0, none⟩ = some (.slice none 0 0) := (blk_cell BK862.out 0).trans rfl; have hfz29_0 := blk_frozen BK862.out 0) | ((with_reducible refine gate_callee (f := 36) rfl ?_); refine goesL_ (some 29) rfl rfl Tryd.func36 (by kernel_rfl) rfl #[.agg #[.slice Ao26 t859.length co26]] rfl (by (try simp only [List.map_toArray, List.map_cons, List.map_nil]); first | done | rfl | (simp only [List.length_drop, List.length_take]; rfl)) ?_; (with_reducible refine (impl_CloseTrie.calls k _ _ t859 t863 t866 _ ?side1 ?side2 A10.out).mono ?_); (case side1 => refine (Kd.R_reads' (e := 76) (base := w.heap.size) (ok := fun k_ => ((True ∧ some k_ ≠ (.slice Ao17 t851.length co17 : Value).ownBlock) ∧ some k_ ≠ (.slice Ao20 t854.length co20 : Value).ownBlock)) (n := t859.length) (c := co26) ?_).2.2; exact (by (with_reducible repeat (first | apply Kd.R_alloc | apply Kd.R_drewN | apply Kd.R_drew)); exact (Kd.R_mono (R_same_ (Kd.R_far (p := ⟨gb862, 0, none⟩) (Kd.R_types HO861.out BK862.out (by decide)) (fun _ hk => hk.2) (.slice Ao26 t859.length co26)) rfl) (fun _ h_ => h_.1)))); (case side2 => exact (Kd.R_reads' HO861.out).2.1); rintro e w30 ⟨v864, rfl, ho0, hb⟩; refine ⟨_, rfl, ?_⟩; have n0_ := Aside0.mk (Kd.R_elder' (by (with_reducible repeat (first | apply Kd.R_alloc | apply Kd.R_drewN | apply Kd.R_drew)); exact (Kd.R_mono (R_same_ (Kd.R_far (p := ⟨gb862, 0, none⟩) (Kd.R_types HO853.out BK862.out (by decide)) (fun _ hk => hk.2) (.slice Ao26 t859.length co26)) rfl) (fun _ h_ => h_.1))) (Kd.R_base ho0) hb); have n1_ := Aside0.mk (Kd.R_elder' (by (with_reducible repeat (first | apply Kd.R_alloc | apply Kd.R_drewN | apply Kd.R_drew)); exact (Kd.R_mono (R_same_ (Kd.R_far (p := ⟨gb862, 0, none⟩) (Kd.R_types HO856.out BK862.out (by decide)) (fun _ hk => hk.2) (.slice Ao26 t859.length co26)) rfl) (fun _ h_ => h_.1))) (Kd.R_base ho0) hb); have n2_ := Aside0.mk (Kd.R_elder' (by (with_reducible repeat (first | apply Kd.R_alloc | apply Kd.R_drewN | apply Kd.R_drew)); exact (Kd.R_mono (R_same_ (Kd.R_far (p := ⟨gb862, 0, none⟩) (Kd.R_types HO861.out BK862.out (by decide)) (fun _ hk => hk.2) (.slice Ao26 t859.length co26)) rfl) (fun _ h_ => h_.1))) (Kd.R_base ho0) hb); have n3_ := Aside0.mk (Kd.R_lower (Kd.R_new' (Kd.R_new' (Kd.R_new' ho0 (Kd.R_lt (by (with_reducible repeat (first | apply Kd.R_alloc | apply Kd.R_drewN | apply Kd.R_drew)); exact (Kd.R_mono (R_same_ (Kd.R_far (p := ⟨gb862, 0, none⟩) (Kd.R_types HO853.out BK862.out (by decide)) (fun _ hk => hk.2) (.slice Ao26 t859.length co26)) rfl) (fun _ h_ => h_.1))))) (Kd.R_lt (by (with_reducible repeat (first | apply Kd.R_alloc | apply Kd.R_drewN | apply Kd.R_drew)); exact (Kd.R_mono (R_same_ (Kd.R_far (p := ⟨gb862, 0, none⟩) (Kd.R_types HO856.out BK862.out (by decide)) (fun _ hk => hk.2) (.slice Ao26 t859.length co26)) rfl) (fun _ h_ => h_.1))))) (Kd.R_lt (by (with_reducible repeat (first | apply Kd.R_alloc | apply Kd.R_drewN | apply Kd.R_drew)); exact (Kd.R_mono (R_same_ (Kd.R_far (p := ⟨gb862, 0, none⟩) (Kd.R_types HO861.out BK862.out (by decide)) (fun _ hk => hk.2) (.slice Ao26 t859.length co26)) rfl) (fun _ h_ => h_.1))))) (below_size (by repeat (first | (with_reducible first | exact HB.out | apply below_alloc | apply pw_below_drewN | apply below_drew1 | refine below_set ?_ GE849.out | refine below_set ?_ GE858.out | refine below_set ?_ GE862.out) | exact HB.out)))); have n4_ := Aside0.mk (blk_below (g := gb849) (o := .cells #[.slice A0_0 l0_0.length c0_0] 36 (0, 0)) (by (with_reducible repeat (first | refine blk_drewN ?_ _ | refine blk_drew ?_ | refine blk_alloc ?_ _)); refine blk_far ?_ NB849_862.out _; (with_reducible repeat (first | refine blk_drewN ?_ _ | refine blk_drew ?_ | refine blk_alloc ?_ _)); exact BK849.out) hb); have n5_ := Aside0.mk (blk_below (g := gb858) (o := .cells #[.slice Ao20 t854.length co20] 26 (0, 0)) (by (with_reducible repeat (first | refine blk_drewN ?_ _ | refine blk_drew ?_ | refine blk_alloc ?_ _)); refine blk_far ?_ NB858_862.out _; (with_reducible repeat (first | refine blk_drewN ?_ _ | refine blk_drew ?_ | refine blk_alloc ?_ _)); exact BK858.out) hb); have n6_ := Aside0.mk (blk_below (g := gb862) (o := .cells #[.slice Ao26 t859.length co26] 26 (0, 0)) (by (with_reducible repeat (first | refine blk_drewN ?_ _ | refine blk_drew ?_ | refine blk_alloc ?_ _)); refine blk_put (cs := #[.slice none 0 0]) ?_ 0 _ rfl; (with_reducible repeat (first | refine blk_drewN ?_ _ | refine blk_drew ?_ | refine blk_alloc ?_ _)); exact BK862.out) hb); have n7_ := Aside0.mk (below_step (by repeat (first | (with_reducible first | exact HB.out | apply below_alloc | apply pw_below_drewN | apply below_drew1 | refine below_set ?_ GE849.out | refine below_set ?_ GE858.out | refine below_set ?_ GE862.out) | exact HB.out)) hb); clear HO853; clear HO856; clear HO861; clear BK849; clear BK858; clear BK862; clear HB; have HO853 := n0_; have HO856 := n1_; have HO861 := n2_; have HO865 := n3_; have BK849 := n4_; have BK858 := n5_; have BK862 := n6_; have HB := n7_; clear n0_ n1_ n2_ n3_ n4_ n5_ n6_ n7_; (try clear hb); (try clear hb2); (try clear hk); (try clear hi); (try clear ho0)) | ((with_reducible refine gate_dst (N := 7) rfl ?_); refine box_event ?hg (N := 7) ?hd (cs := #[.slice none 0 0]) (t := 26) ?hr ?_; (case hd => rfl); (case hg => rfl); (case hr => first | (go_simp; done) | (go_simp; rfl)); intro gb867 hg w31 hbox hb; have n0_ := Aside0.mk (Kd.R_below (by (with_reducible repeat (first | apply Kd.R_alloc | apply Kd.R_drewN | apply Kd.R_drew)); exact HO853.out) hb); have n1_ := Aside0.mk (Kd.R_below (by (with_reducible repeat (first | apply Kd.R_alloc | apply Kd.R_drewN | apply Kd.R_drew)); exact HO856.out) hb); have n2_ := Aside0.mk (Kd.R_below (by (with_reducible repeat (first | apply Kd.R_alloc | apply Kd.R_drewN | apply Kd.R_drew)); exact HO861.out) hb); have n3_ := Aside0.mk (Kd.R_below (by (with_reducible repeat (first | apply Kd.R_alloc | apply Kd.R_drewN | apply Kd.R_drew)); exact HO865.out) hb); have n4_ := Aside0.mk (blk_below (g := gb849) (o := .cells #[.slice A0_0 l0_0.length c0_0] 36 (0, 0)) (by (with_reducible repeat (first | refine blk_drewN ?_ _ | refine blk_drew ?_ | refine blk_alloc ?_ _)); exact BK849.out) hb); have n5_ := Aside0.mk (blk_below (g := gb858) (o := .cells #[.slice Ao20 t854.length co20] 26 (0, 0)) (by (with_reducible repeat (first | refine blk_drewN ?_ _ | refine blk_drew ?_ | refine blk_alloc ?_ _)); exact BK858.out) hb); have n6_ := Aside0.mk (blk_below (g := gb862) (o := .cells #[.slice Ao26 t859.length co26] 26 (0, 0)) (by (with_reducible repeat (first | refine blk_drewN ?_ _ | refine blk_drew ?_ | refine blk_alloc ?_ _)); exact BK862.out) hb); have n7_ := Aside0.mk (below_step (by repeat (first | (with_reducible first | exact HB.out | apply below_alloc | apply pw_below_drewN | apply below_drew1 | refine below_set ?_ GE849.out | refine below_set ?_ GE858.out | refine below_set ?_ GE862.out) | exact HB.out)) hb); have n8_ := Aside0.mk (hbox); have n9_ := Aside0.mk ((by rw [hg]; exact (below_size (by repeat (first | (with_reducible first | exact HB.out | apply below_alloc | apply pw_below_drewN | apply below_drew1 | refine below_set ?_ GE849.out | refine below_set ?_ GE858.out | refine below_set ?_ GE862.out) | exact HB.out))) : w.heap.size ≤ gb867)); have n10_ := Aside0.mk ((by rw [hg]; exact (below_size (by repeat (first | (with_reducible first | exact HB.out | apply below_alloc | apply pw_below_drewN | apply below_drew1 | refine below_set ?_ GE849.out | refine below_set ?_ GE858.out | refine below_set ?_ GE862.out) | exact HB.out))) : w.heap.size ≤ gb867)); have n11_ := Aside0.mk ((by rw [hg]; exact Nat.ne_of_lt (blk_lt (g := gb849) (o := .cells #[.slice A0_0 l0_0.length c0_0] 36 (0, 0)) (by (with_reducible repeat (first | refine blk_drewN ?_ _ | refine blk_drew ?_ | refine blk_alloc ?_ _)); exact BK849.out)) : gb849 ≠ gb867)); have n12_ := Aside0.mk ((by rw [hg]; exact Nat.ne_of_gt (blk_lt (g := gb849) (o := .cells #[.slice A0_0 l0_0.length c0_0] 36 (0, 0)) (by (with_reducible repeat (first | refine blk_drewN ?_ _ | refine blk_drew ?_ | refine blk_alloc ?_ _)); exact BK849.out)) : gb867 ≠ gb849)); have n13_ := Aside0.mk ((by rw [hg]; exact Nat.ne_of_lt (blk_lt (g := gb858) (o := .cells #[.slice Ao20 t854.length co20] 26 (0, 0)) (by (with_reducible repeat (first | refine blk_drewN ?_ _ | refine blk_drew ?_ | refine blk_alloc ?_ _)); exact BK858.out)) : gb858 ≠ gb867)); have n14_ := Aside0.mk ((by rw [hg]; exact Nat.ne_of_gt (blk_lt (g := gb858) (o := .cells #[.slice Ao20 t854.length co20] 26 (0, 0)) (by (with_reducible repeat (first | refine blk_drewN ?_ _ | refine blk_drew ?_ | refine blk_alloc ?_ _)); exact BK858.out)) : gb867 ≠ gb858)); have n15_ := Aside0.mk ((by rw [hg]; exact Nat.ne_of_lt (blk_lt (g := gb862) (o := .cells #[.slice Ao26 t859.length co26] 26 (0, 0)) (by (with_reducible repeat (first | refine blk_drewN ?_ _ | refine blk_drew ?_ | refine blk_alloc ?_ _)); exact BK862.out)) : gb862 ≠ gb867)); have n16_ := Aside0.mk ((by rw [hg]; exact Nat.ne_of_gt (blk_lt (g := gb862) (o := .cells #[.slice Ao26 t859.length co26] 26 (0, 0)) (by (with_reducible repeat (first | refine blk_drewN ?_ _ | refine blk_drew ?_ | refine blk_alloc ?_ _)); exact BK862.out)) : gb867 ≠ gb862)); clear HO853; clear HO856; clear HO861; clear HO865; clear BK849; clear BK858; clear BK862; clear HB; have HO853 := n0_; have HO856 := n1_; have HO861 := n2_; have HO865 := n3_; have BK849 := n4_; have BK858 := n5_; have BK862 := n6_; have HB := n7_; have BK867 := n8_; have GW867 := n9_; have GE867 := n10_; have NB849_867 := n11_; have NB867_849 := n12_; have NB858_867 := n13_; have NB867_858 := n14_; have NB862_867 := n15_; have NB867_862 := n16_; clear n0_ n1_ n2_ n3_ n4_ n5_ n6_ n7_ n8_ n9_ n10_ n11_ n12_ n13_ n14_ n15_ n16_; clear hb hbox hg; obtain ⟨Ao32, co32, eo32⟩ := Kd.R_slice HO865.out; subst eo32; have hnb33 := NB867_849.out; have hnc33 := NB849_867.out; have hnb34 := NB867_858.out; have hnc34 := NB858_867.out; have hnb35 := NB867_862.out; have hnc35 := NB862_867.out; have hcz36_0 : w31.cell? ⟨gb867, 0, none⟩ = some (.slice none 0 0) := (blk_cell BK867.out 0).trans rfl; have hfz36_0 := blk_frozen BK867.out 0))
    (try simp only [Act.put, List.setIfInBounds_toArray, List.set_cons_zero, List.set_cons_succ])
    go_cut [40] (fun v40 wc => ∃ (kq : Nat) (x40_10 : Bool), v40 = .bool x40_10 ∧ Aside0 (laws_FnExactCloseTrie.j0 kq t857 t866 x40_10 l0_0 t854 t859 t863 = some true) ∧ Aside0 (kq ≤ k) ∧ Aside0 (Kd.R k76 76 wc w.heap.size (fun k_ => some k_ ≠ ((.slice Ao26 t859.length co26) : Value).ownBlock ∧ some k_ ≠ ((.slice Ao32 t863.length co32) : Value).ownBlock) (.slice Ao20 t854.length co20) t854) ∧ Aside0 (Kd.R k76 76 wc w.heap.size (fun k_ => some k_ ≠ ((.slice Ao20 t854.length co20) : Value).ownBlock ∧ some k_ ≠ ((.slice Ao32 t863.length co32) : Value).ownBlock) (.slice Ao26 t859.length co26) t859) ∧ Aside0 (Kd.R k76 76 wc w.heap.size (fun k_ => some k_ ≠ ((.slice Ao20 t854.length co20) : Value).ownBlock ∧ some k_ ≠ ((.slice Ao26 t859.length co26) : Value).ownBlock) (.slice Ao32 t863.length co32) t863) ∧ Aside0 (wc.heap[gb849]? = some (.cells #[(.slice A0_0 l0_0.length c0_0)] 36 (0, 0))) ∧ Aside0 (wc.heap[gb858]? = some (.cells #[(.slice Ao20 t854.length co20)] 26 (0, 0))) ∧ Aside0 (wc.heap[gb862]? = some (.cells #[(.slice Ao26 t859.length co26)] 26 (0, 0))) ∧ Aside0 (wc.heap[gb867]? = some (.cells #[(.slice Ao32 t863.length co32)] 26 (0, 0))) ∧ Aside0 (Below w.heap.size w wc))
    case first =>
      have H := HC11.out
      clear HC11
      replace H := Option.bind_eq_some_iff.mp H
      obtain ⟨t868, A370, H⟩ := H
      replace H : (if t868 = true then (laws_FnExactCloseTrie.j0 k t857 t866 (t866 != t857) l0_0 t854 t859 t863) else (laws_FnExactCloseTrie.j0 k t857 t866 true l0_0 t854 t859 t863)) = some true := H
      have A37 := Aside0.mk A370
      clear A370
      by_cases c38 : t868 = true
      · subst c38
        have H1 : (laws_FnExactCloseTrie.j0 k t857 t866 (t866 != t857) l0_0 t854 t859 t863) = some true := by rw [if_pos rfl] at H; exact H
        clear H
        have H := H1
        clear H1
        have H' := Aside0.mk H
        clear H
        have hnb39 := NB867_849.out
        have hnc39 := NB849_867.out
        have hnb40 := NB867_858.out
        have hnc40 := NB858_867.out
        have hnb41 := NB867_862.out
        have hnc41 := NB862_867.out
        have hcz42_0 : w31.cell? ⟨gb867, 0, none⟩ = some (.slice none 0 0) := (blk_cell BK867.out 0).trans rfl
        have hfz42_0 := blk_frozen BK867.out 0
        have hnb43 := NB858_849.out
        have hnc43 := NB849_858.out
        have hnb44 := NB858_862.out
        have hnc44 := NB862_858.out
        have hcz45_0 : w31.cell? ⟨gb858, 0, none⟩ = some (.slice Ao20 t854.length co20) := (blk_cell BK858.out 0).trans rfl
        have hfz45_0 := blk_frozen BK858.out 0
        go_wp2_with (first | ((with_reducible refine gate_callee (f := 16) rfl ?_); refine goesL_ (some 34) rfl rfl Tryd.func16 (by kernel_rfl) rfl #[.agg #[.slice Ao32 t863.length co32], .agg #[.slice Ao20 t854.length co20]] rfl (by (try simp only [List.map_toArray, List.map_cons, List.map_nil]); first | done | rfl | (simp only [List.length_drop, List.length_take]; rfl)) ?_; (with_reducible refine (laws_eqTrie.calls k _ _ t863 _ _ t854 true _ ?side1 ?side2 ?side3 ?side4 A37.out).mono ?_); (case side1 => refine (Kd.R_reads' (e := 76) (base := w.heap.size) (ok := fun k_ => (((True ∧ some k_ ≠ (.slice Ao17 t851.length co17 : Value).ownBlock) ∧ some k_ ≠ (.slice Ao20 t854.length co20 : Value).ownBlock) ∧ some k_ ≠ (.slice Ao26 t859.length co26 : Value).ownBlock)) (n := t863.length) (c := co32) ?_).2.2; exact (by (with_reducible repeat (first | apply Kd.R_alloc | apply Kd.R_drewN | apply Kd.R_drew)); exact (Kd.R_mono (R_same_ (Kd.R_far (p := ⟨gb867, 0, none⟩) (Kd.R_types HO865.out BK867.out (by decide)) (fun _ hk => hk.2) (.slice Ao32 t863.length co32)) rfl) (fun _ h_ => h_.1)))); (case side2 => exact (Kd.R_reads' HO865.out).2.1); (case side3 => refine (Kd.R_reads' (e := 76) (base := w.heap.size) (ok := fun k_ => (((True ∧ some k_ ≠ (.slice Ao17 t851.length co17 : Value).ownBlock) ∧ some k_ ≠ (.slice Ao26 t859.length co26 : Value).ownBlock) ∧ some k_ ≠ (.slice Ao32 t863.length co32 : Value).ownBlock)) (n := t854.length) (c := co20) ?_).2.2; exact (by (with_reducible repeat (first | apply Kd.R_alloc | apply Kd.R_drewN | apply Kd.R_drew)); exact (Kd.R_mono (R_same_ (Kd.R_far (p := ⟨gb867, 0, none⟩) (Kd.R_types HO856.out BK867.out (by decide)) (fun _ hk => hk.2) (.slice Ao32 t863.length co32)) rfl) (fun _ h_ => h_.1)))); (case side4 => exact (Kd.R_reads' HO856.out).2.1); rintro e w46 ⟨rfl, hb⟩; refine ⟨_, rfl, ?_⟩; have n0_ := Aside0.mk (Kd.R_below (by (with_reducible repeat (first | apply Kd.R_alloc | apply Kd.R_drewN | apply Kd.R_drew)); exact (Kd.R_mono (R_same_ (Kd.R_far (p := ⟨gb867, 0, none⟩) (Kd.R_types HO853.out BK867.out (by decide)) (fun _ hk => hk.2) (.slice Ao32 t863.length co32)) rfl) (fun _ h_ => h_.1))) hb); have n1_ := Aside0.mk (Kd.R_below (by (with_reducible repeat (first | apply Kd.R_alloc | apply Kd.R_drewN | apply Kd.R_drew)); exact (Kd.R_mono (R_same_ (Kd.R_far (p := ⟨gb867, 0, none⟩) (Kd.R_types HO856.out BK867.out (by decide)) (fun _ hk => hk.2) (.slice Ao32 t863.length co32)) rfl) (fun _ h_ => h_.1))) hb); have n2_ := Aside0.mk (Kd.R_below (by (with_reducible repeat (first | apply Kd.R_alloc | apply Kd.R_drewN | apply Kd.R_drew)); exact (Kd.R_mono (R_same_ (Kd.R_far (p := ⟨gb867, 0, none⟩) (Kd.R_types HO861.out BK867.out (by decide)) (fun _ hk => hk.2) (.slice Ao32 t863.length co32)) rfl) (fun _ h_ => h_.1))) hb); have n3_ := Aside0.mk (Kd.R_below (by (with_reducible repeat (first | apply Kd.R_alloc | apply Kd.R_drewN | apply Kd.R_drew)); exact (Kd.R_mono (R_same_ (Kd.R_far (p := ⟨gb867, 0, none⟩) (Kd.R_types HO865.out BK867.out (by decide)) (fun _ hk => hk.2) (.slice Ao32 t863.length co32)) rfl) (fun _ h_ => h_.1))) hb); have n4_ := Aside0.mk (blk_below (g := gb849) (o := .cells #[.slice A0_0 l0_0.length c0_0] 36 (0, 0)) (by (with_reducible repeat (first | refine blk_drewN ?_ _ | refine blk_drew ?_ | refine blk_alloc ?_ _)); refine blk_far ?_ NB849_867.out _; (with_reducible repeat (first | refine blk_drewN ?_ _ | refine blk_drew ?_ | refine blk_alloc ?_ _)); exact BK849.out) hb); have n5_ := Aside0.mk (blk_below (g := gb858) (o := .cells #[.slice Ao20 t854.length co20] 26 (0, 0)) (by (with_reducible repeat (first | refine blk_drewN ?_ _ | refine blk_drew ?_ | refine blk_alloc ?_ _)); refine blk_far ?_ NB858_867.out _; (with_reducible repeat (first | refine blk_drewN ?_ _ | refine blk_drew ?_ | refine blk_alloc ?_ _)); exact BK858.out) hb); have n6_ := Aside0.mk (blk_below (g := gb862) (o := .cells #[.slice Ao26 t859.length co26] 26 (0, 0)) (by (with_reducible repeat (first | refine blk_drewN ?_ _ | refine blk_drew ?_ | refine blk_alloc ?_ _)); refine blk_far ?_ NB862_867.out _; (with_reducible repeat (first | refine blk_drewN ?_ _ | refine blk_drew ?_ | refine blk_alloc ?_ _)); exact BK862.out) hb); have n7_ := Aside0.mk (blk_below (g := gb867) (o := .cells #[.slice Ao32 t863.length co32] 26 (0, 0)) (by (with_reducible repeat (first | refine blk_drewN ?_ _ | refine blk_drew ?_ | refine blk_alloc ?_ _)); refine blk_put (cs := #[.slice none 0 0]) ?_ 0 _ rfl; (with_reducible repeat (first | refine blk_drewN ?_ _ | refine blk_drew ?_ | refine blk_alloc ?_ _)); exact BK867.out) hb); have n8_ := Aside0.mk (below_step (by repeat (first | (with_reducible first | exact HB.out | apply below_alloc | apply pw_below_drewN | apply below_drew1 | refine below_set ?_ GE849.out | refine below_set ?_ GE858.out | refine below_set ?_ GE862.out | refine below_set ?_ GE867.out) | exact HB.out)) hb); clear HO853; clear HO856; clear HO861; clear HO865; clear BK849; clear BK858; clear BK862; clear BK867; clear HB; have HO853 := n0_; have HO856 := n1_; have HO861 := n2_; have HO865 := n3_; have BK849 := n4_; have BK858 := n5_; have BK862 := n6_; have BK867 := n7_; have HB := n8_; clear n0_ n1_ n2_ n3_ n4_ n5_ n6_ n7_ n8_; (try clear hb); (try clear hb2); (try clear hk); (try clear hi)))
        go_meet
        case rel => exact ⟨_, ((t866 != t857)), (by first | rfl | (simp; done) | (simp [*]; done)), H', ⟨by first | omega | exact Nat.le_refl _⟩, ⟨by (with_reducible repeat (first | apply Kd.R_alloc | apply Kd.R_drewN | apply Kd.R_drew)); exact Kd.R_mono HO856.out (fun _ hk => ⟨hk.1.2, hk.2⟩)⟩, ⟨by (with_reducible repeat (first | apply Kd.R_alloc | apply Kd.R_drewN | apply Kd.R_drew)); exact Kd.R_mono HO861.out (fun _ hk => ⟨hk.1.2, hk.2⟩)⟩, ⟨by (with_reducible repeat (first | apply Kd.R_alloc | apply Kd.R_drewN | apply Kd.R_drew)); exact Kd.R_mono HO865.out (fun _ hk => ⟨hk.1.2, hk.2⟩)⟩, ⟨by (with_reducible repeat (first | refine blk_drewN ?_ _ | refine blk_drew ?_ | refine blk_alloc ?_ _)); exact BK849.out⟩, ⟨by (with_reducible repeat (first | refine blk_drewN ?_ _ | refine blk_drew ?_ | refine blk_alloc ?_ _)); exact BK858.out⟩, ⟨by (with_reducible repeat (first | refine blk_drewN ?_ _ | refine blk_drew ?_ | refine blk_alloc ?_ _)); exact BK862.out⟩, ⟨by (with_reducible repeat (first | refine blk_drewN ?_ _ | refine blk_drew ?_ | refine blk_alloc ?_ _)); exact BK867.out⟩, ⟨by repeat (first | (with_reducible first | exact HB.out | apply below_alloc | apply pw_below_drewN | apply below_drew1 | refine below_set ?_ GE849.out | refine below_set ?_ GE858.out | refine below_set ?_ GE862.out | refine below_set ?_ GE867.out) | exact HB.out)⟩⟩
      · replace c38 := Bool.eq_false_iff.mpr c38
        subst c38
        have H1 : (laws_FnExactCloseTrie.j0 k t857 t866 true l0_0 t854 t859 t863) = some true := by rw [if_neg (show ¬ (false = true) by decide)] at H; exact H
        exact absurd H1 (by cases k <;> simp [laws_FnExactCloseTrie.j0])
    case rest =>
      clear HC11
      try clear c1
      try clear c2
      try clear p2
      try clear c3
      try clear c3b0
      try clear c4
      try clear c5
      try clear c10
      try clear c16
      try clear c21
      try clear c23
      try clear c27
      try clear c28
      try clear c33
      try clear c34
      try clear c35
      try clear c36
      try clear c38
      try clear c39
      try clear c40
      try clear c41
      try clear c43
      try clear c44
      try clear c47
      try clear c48
      try clear c49
      try clear c51
      try clear c52
      try clear hcz13_0
      try clear hcz15_0
      try clear hcz22_0
      try clear hcz23_0
      try clear hcz29_0
      try clear hcz36_0
      try clear hcz42_0
      try clear hcz45_0
      try clear hcz50_0
      try clear hcz53_0
      try clear hcz5_0
      try clear hfz13_0
      try clear hfz15_0
      try clear hfz22_0
      try clear hfz23_0
      try clear hfz29_0
      try clear hfz36_0
      try clear hfz42_0
      try clear hfz45_0
      try clear hfz50_0
      try clear hfz53_0
      try clear hfz5_0
      obtain ⟨kq, x40_10, rfl, HA, HJ10, HO_859000, HO_863000, HO_868000, BK849, BK858, BK862, BK867, HB⟩ := hcut
      cases kq with
      | zero => exact absurd HA.out (by simp [laws_FnExactCloseTrie.j0])
      | succ kj10 =>
        have H := HA.out
        clear HA
        simp only [laws_FnExactCloseTrie.j0] at H
        by_cases c55 : x40_10 = true
        · subst c55
          have H1 : (some false) = some true := by rw [if_pos rfl] at H; exact H
          exact absurd H1 (by simp)
        · replace c55 := Bool.eq_false_iff.mpr c55
          subst c55
          have H1 : ((laws_toTrie.f kj10 l0_0).bind fun t869 => ((laws_eqTrie.f kj10 t859 t869).bind fun t872 => (if t872 = true then ((laws_markTrie.f kj10 t859 1).bind fun bt873 => (if bt873.1 < 0 then (laws_FnExactCloseTrie.j1 kj10 t857 true l0_0 t854 t863) else ((laws_eqTrie.f kj10 t863 t854).bind fun t875 => (if t875 = true then (laws_FnExactCloseTrie.j1 kj10 t857 (t866 != t857) l0_0 t854 t863) else (laws_FnExactCloseTrie.j1 kj10 t857 true l0_0 t854 t863))))) else (some false)))) = some true := by rw [if_neg (show ¬ (false = true) by decide)] at H; exact H
          clear H
          have H := H1
          clear H1
          replace H := Option.bind_eq_some_iff.mp H
          obtain ⟨t869, A560, H⟩ := H
          replace H : ((laws_eqTrie.f kj10 t859 t869).bind fun t872 => (if t872 = true then ((laws_markTrie.f kj10 t859 1).bind fun bt873 => (if bt873.1 < 0 then (laws_FnExactCloseTrie.j1 kj10 t857 true l0_0 t854 t863) else ((laws_eqTrie.f kj10 t863 t854).bind fun t875 => (if t875 = true then (laws_FnExactCloseTrie.j1 kj10 t857 (t866 != t857) l0_0 t854 t863) else (laws_FnExactCloseTrie.j1 kj10 t857 true l0_0 t854 t863))))) else (some false))) = some true := H
          have A56 := Aside0.mk A560
          clear A560
          replace H := Option.bind_eq_some_iff.mp H
          obtain ⟨t872, A570, H⟩ := H
          replace H : (if t872 = true then ((laws_markTrie.f kj10 t859 1).bind fun bt873 => (if bt873.1 < 0 then (laws_FnExactCloseTrie.j1 kj10 t857 true l0_0 t854 t863) else ((laws_eqTrie.f kj10 t863 t854).bind fun t875 => (if t875 = true then (laws_FnExactCloseTrie.j1 kj10 t857 (t866 != t857) l0_0 t854 t863) else (laws_FnExactCloseTrie.j1 kj10 t857 true l0_0 t854 t863))))) else (some false)) = some true := H
          have A57 := Aside0.mk A570
          clear A570
          by_cases c58 : t872 = true
          · subst c58
            have H1 : ((laws_markTrie.f kj10 t859 1).bind fun bt873 => (if bt873.1 < 0 then (laws_FnExactCloseTrie.j1 kj10 t857 true l0_0 t854 t863) else ((laws_eqTrie.f kj10 t863 t854).bind fun t875 => (if t875 = true then (laws_FnExactCloseTrie.j1 kj10 t857 (t866 != t857) l0_0 t854 t863) else (laws_FnExactCloseTrie.j1 kj10 t857 true l0_0 t854 t863))))) = some true := by rw [if_pos rfl] at H; exact H
            clear H
            have H := H1
            clear H1
            replace H := Option.bind_eq_some_iff.mp H
            obtain ⟨⟨t873, t874⟩, A590, H⟩ := H
            replace H : (if t873 < 0 then (laws_FnExactCloseTrie.j1 kj10 t857 true l0_0 t854 t863) else ((laws_eqTrie.f kj10 t863 t854).bind fun t875 => (if t875 = true then (laws_FnExactCloseTrie.j1 kj10 t857 (t866 != t857) l0_0 t854 t863) else (laws_FnExactCloseTrie.j1 kj10 t857 true l0_0 t854 t863)))) = some true := H
            have A59 := Aside0.mk A590
            clear A590
            have HC60 := Aside0.mk H
            clear H
            try go_wp2
            have n0_ := Aside0.mk (Kd.R_drew HO_859000.out)
            have n1_ := Aside0.mk (Kd.R_drew HO_863000.out)
            have n2_ := Aside0.mk (Kd.R_drew HO_868000.out)
            have n3_ := Aside0.mk (blk_drew BK849.out)
            have n4_ := Aside0.mk (blk_drew BK858.out)
            have n5_ := Aside0.mk (blk_drew BK862.out)
            have n6_ := Aside0.mk (blk_drew BK867.out)
            have n7_ := Aside0.mk (below_drew1 HB.out)
            clear HO_859000
            clear HO_863000
            clear HO_868000
            clear BK849
            clear BK858
            clear BK862
            clear BK867
            clear HB
            have HO_859000 := n0_
            have HO_863000 := n1_
            have HO_868000 := n2_
            have BK849 := n3_
            have BK858 := n4_
            have BK862 := n5_
            have BK867 := n6_
            have HB := n7_
            clear n0_ n1_ n2_ n3_ n4_ n5_ n6_ n7_
            refine start_ (n := 5) (S := fun w' => w'.cell? ⟨gb862, 0, none⟩ = some (.slice Ao26 t859.length co26) ∧ w'.cell? ⟨gb849, 0, none⟩ = some (.slice A0_0 l0_0.length c0_0)) (ds := []) #[false, false, false, false, false] (by kernel_rfl) rfl rfl ⟨(blk_cell BK862.out 0).trans rfl, (blk_cell BK849.out 0).trans rfl⟩ (fun hHeld => ?_)
            generalize wc.drew = w61 at HO_859000 HO_863000 HO_868000 BK849 BK858 BK862 BK867 HB hHeld ⊢
            refine take_ (i := 0) (N := some 41) (v := ?_) (a' := ?_) #[true, false, false, false, false] rfl rfl (by kernel_rfl) (fun _ _ _ h => h) (Or.inl ⟨by rfl, ?_⟩) hHeld ?_ ?_
            rotate_left
            · rintro w' ⟨s0, s1⟩
              go_simp
              with_reducible rfl
            rotate_left
            · simp only [Act.put, List.setIfInBounds_toArray, List.set_cons_zero, List.set_cons_succ, i64_w, i32_w]
              rfl
            refine take_ (i := 1) (N := some 42) (v := ?_) (a' := ?_) #[true, true, false, false, false] rfl rfl (by kernel_rfl) (fun _ _ _ h => h) (Or.inl ⟨by rfl, ?_⟩) hHeld ?_ ?_
            rotate_left
            · rintro w' ⟨s0, s1⟩
              go_simp
              with_reducible rfl
            rotate_left
            · simp only [Act.put, List.setIfInBounds_toArray, List.set_cons_zero, List.set_cons_succ, i64_w, i32_w]
              rfl
            refine one_ (i := 2) (N := some 43) #[true, true, true, false, false] rfl rfl (by kernel_rfl) (by decide) (fun K hK => ?_)
            refine goes_ Tryd.func23 (by kernel_rfl) rfl #[.agg #[.slice A0_0 l0_0.length c0_0]] (by rfl) rfl rfl (by (try simp only [List.map_toArray, List.map_cons, List.map_nil]); first | done | rfl | (simp only [List.length_drop, List.length_take]; rfl)) ?_
            with_reducible refine (laws_toTrie.calls kj10 _ _ l0_0 t869 _ ?side1 ?side2 A56.out).mono ?_
            (case side1 => repeat (first | exact (Kd.C_below HR0_0.out HB.out) | (with_reducible refine Kd.C_alloc ?_ _) | (with_reducible refine Kd.C_drewN ?_ _) | (with_reducible refine Kd.C_drew ?_)))
            (case side2 => exact HC0_0.out)
            rintro e w62 ⟨v870, rfl, ho0, hb⟩
            refine ⟨_, rfl, ?_⟩
            have n0_ := Aside0.mk (Kd.R_elder' (by (with_reducible repeat (first | apply Kd.R_alloc | apply Kd.R_drewN | apply Kd.R_drew)); exact HO_859000.out) (Kd.R_base ho0) hb)
            have n1_ := Aside0.mk (Kd.R_elder' (by (with_reducible repeat (first | apply Kd.R_alloc | apply Kd.R_drewN | apply Kd.R_drew)); exact HO_863000.out) (Kd.R_base ho0) hb)
            have n2_ := Aside0.mk (Kd.R_elder' (by (with_reducible repeat (first | apply Kd.R_alloc | apply Kd.R_drewN | apply Kd.R_drew)); exact HO_868000.out) (Kd.R_base ho0) hb)
            have n3_ := Aside0.mk (Kd.R_lower (Kd.R_new' (Kd.R_new' (Kd.R_new' ho0 (Kd.R_lt (by (with_reducible repeat (first | apply Kd.R_alloc | apply Kd.R_drewN | apply Kd.R_drew)); exact HO_859000.out))) (Kd.R_lt (by (with_reducible repeat (first | apply Kd.R_alloc | apply Kd.R_drewN | apply Kd.R_drew)); exact HO_863000.out))) (Kd.R_lt (by (with_reducible repeat (first | apply Kd.R_alloc | apply Kd.R_drewN | apply Kd.R_drew)); exact HO_868000.out))) (below_size (by repeat (first | (with_reducible first | exact HB.out | apply below_alloc | apply pw_below_drewN | apply below_drew1 | refine below_set ?_ GE849.out | refine below_set ?_ GE858.out | refine below_set ?_ GE862.out | refine below_set ?_ GE867.out) | exact HB.out))))
            have n4_ := Aside0.mk (blk_below (g := gb849) (o := .cells #[.slice A0_0 l0_0.length c0_0] 36 (0, 0)) (by (with_reducible repeat (first | refine blk_drewN ?_ _ | refine blk_drew ?_ | refine blk_alloc ?_ _)); exact BK849.out) hb)
            have n5_ := Aside0.mk (blk_below (g := gb858) (o := .cells #[.slice Ao20 t854.length co20] 26 (0, 0)) (by (with_reducible repeat (first | refine blk_drewN ?_ _ | refine blk_drew ?_ | refine blk_alloc ?_ _)); exact BK858.out) hb)
            have n6_ := Aside0.mk (blk_below (g := gb862) (o := .cells #[.slice Ao26 t859.length co26] 26 (0, 0)) (by (with_reducible repeat (first | refine blk_drewN ?_ _ | refine blk_drew ?_ | refine blk_alloc ?_ _)); exact BK862.out) hb)
            have n7_ := Aside0.mk (blk_below (g := gb867) (o := .cells #[.slice Ao32 t863.length co32] 26 (0, 0)) (by (with_reducible repeat (first | refine blk_drewN ?_ _ | refine blk_drew ?_ | refine blk_alloc ?_ _)); exact BK867.out) hb)
            have n8_ := Aside0.mk (below_step (by repeat (first | (with_reducible first | exact HB.out | apply below_alloc | apply pw_below_drewN | apply below_drew1 | refine below_set ?_ GE849.out | refine below_set ?_ GE858.out | refine below_set ?_ GE862.out | refine below_set ?_ GE867.out) | exact HB.out)) hb)
            clear HO_859000
            clear HO_863000
            clear HO_868000
            clear BK849
            clear BK858
            clear BK862
            clear BK867
            clear HB
            have HO_859000 := n0_
            have HO_863000 := n1_
            have HO_868000 := n2_
            have HO871 := n3_
            have BK849 := n4_
            have BK858 := n5_
            have BK862 := n6_
            have BK867 := n7_
            have HB := n8_
            clear n0_ n1_ n2_ n3_ n4_ n5_ n6_ n7_ n8_
            (try clear hb)
            (try clear hb2)
            (try clear hk)
            (try clear hi)
            (try clear ho0)
            obtain ⟨Ao63, co63, eo63⟩ := Kd.R_slice HO871.out
            (first | subst eo63 | (injection eo63 with f1_ f2_ f3_; have f4_ := f1_.symm; have f5_ := f3_.symm; clear f1_ f2_ f3_; subst f4_; subst f5_))
            refine hK.out _ _ ⟨(blk_cell BK862.out 0).trans rfl, (blk_cell BK849.out 0).trans rfl⟩ (fun hHeld => ?_)
            clear hK K
            refine norm_ (a' := ?_) ?_ ?_
            rotate_left
            · show Act.put _ (some 43) _ = _
              simp only [Act.put, List.setIfInBounds_toArray, List.set_cons_zero, List.set_cons_succ, i64_w, i32_w]
              rfl
            refine one_ (i := 3) (N := some 44) #[true, true, true, true, false] rfl rfl (by kernel_rfl) (by decide) (fun K hK => ?_)
            refine goes_ Tryd.func16 (by kernel_rfl) rfl #[.agg #[.slice Ao26 t859.length co26], .agg #[.slice Ao63 t869.length co63]] (by rfl) rfl rfl (by (try simp only [List.map_toArray, List.map_cons, List.map_nil]); first | done | rfl | (simp only [List.length_drop, List.length_take]; rfl)) ?_
            with_reducible refine (laws_eqTrie.calls kj10 _ _ t859 _ _ t869 true _ ?side1 ?side2 ?side3 ?side4 A57.out).mono ?_
            (case side1 => repeat (first | exact (Kd.R_reads' HO_863000.out).2.2 | (with_reducible refine Kd.C_alloc ?_ _) | (with_reducible refine Kd.C_drewN ?_ _) | (with_reducible refine Kd.C_drew ?_)))
            (case side2 => exact (Kd.R_reads' HO_863000.out).2.1)
            (case side3 => repeat (first | exact (Kd.R_reads' HO871.out).2.2 | (with_reducible refine Kd.C_alloc ?_ _) | (with_reducible refine Kd.C_drewN ?_ _) | (with_reducible refine Kd.C_drew ?_)))
            (case side4 => exact (Kd.R_reads' HO871.out).2.1)
            rintro e w64 ⟨rfl, hb⟩
            refine ⟨_, rfl, ?_⟩
            have n0_ := Aside0.mk (Kd.R_below (by (with_reducible repeat (first | apply Kd.R_alloc | apply Kd.R_drewN | apply Kd.R_drew)); exact HO_859000.out) hb)
            have n1_ := Aside0.mk (Kd.R_below (by (with_reducible repeat (first | apply Kd.R_alloc | apply Kd.R_drewN | apply Kd.R_drew)); exact HO_863000.out) hb)
            have n2_ := Aside0.mk (Kd.R_below (by (with_reducible repeat (first | apply Kd.R_alloc | apply Kd.R_drewN | apply Kd.R_drew)); exact HO_868000.out) hb)
            have n3_ := Aside0.mk (Kd.R_below (by (with_reducible repeat (first | apply Kd.R_alloc | apply Kd.R_drewN | apply Kd.R_drew)); exact HO871.out) hb)
            have n4_ := Aside0.mk (blk_below (g := gb849) (o := .cells #[.slice A0_0 l0_0.length c0_0] 36 (0, 0)) (by (with_reducible repeat (first | refine blk_drewN ?_ _ | refine blk_drew ?_ | refine blk_alloc ?_ _)); exact BK849.out) hb)
            have n5_ := Aside0.mk (blk_below (g := gb858) (o := .cells #[.slice Ao20 t854.length co20] 26 (0, 0)) (by (with_reducible repeat (first | refine blk_drewN ?_ _ | refine blk_drew ?_ | refine blk_alloc ?_ _)); exact BK858.out) hb)
            have n6_ := Aside0.mk (blk_below (g := gb862) (o := .cells #[.slice Ao26 t859.length co26] 26 (0, 0)) (by (with_reducible repeat (first | refine blk_drewN ?_ _ | refine blk_drew ?_ | refine blk_alloc ?_ _)); exact BK862.out) hb)
            have n7_ := Aside0.mk (blk_below (g := gb867) (o := .cells #[.slice Ao32 t863.length co32] 26 (0, 0)) (by (with_reducible repeat (first | refine blk_drewN ?_ _ | refine blk_drew ?_ | refine blk_alloc ?_ _)); exact BK867.out) hb)
            have n8_ := Aside0.mk (below_step (by repeat (first | (with_reducible first | exact HB.out | apply below_alloc | apply pw_below_drewN | apply below_drew1 | refine below_set ?_ GE849.out | refine below_set ?_ GE858.out | refine below_set ?_ GE862.out | refine below_set ?_ GE867.out) | exact HB.out)) hb)
            clear HO_859000
            clear HO_863000
            clear HO_868000
            clear HO871
            clear BK849
            clear BK858
            clear BK862
            clear BK867
            clear HB
            have HO_859000 := n0_
            have HO_863000 := n1_
            have HO_868000 := n2_
            have HO871 := n3_
            have BK849 := n4_
            have BK858 := n5_
            have BK862 := n6_
            have BK867 := n7_
            have HB := n8_
            clear n0_ n1_ n2_ n3_ n4_ n5_ n6_ n7_ n8_
            (try clear hb)
            (try clear hb2)
            (try clear hk)
            (try clear hi)
            refine hK.out _ _ ⟨(blk_cell BK862.out 0).trans rfl, (blk_cell BK849.out 0).trans rfl⟩ (fun hHeld => ?_)
            clear hK K
            refine norm_ (a' := ?_) ?_ ?_
            rotate_left
            · show Act.put _ (some 44) _ = _
              simp only [Act.put, List.setIfInBounds_toArray, List.set_cons_zero, List.set_cons_succ, i64_w, i32_w]
              rfl
            refine pure_ (i := 4) (N := some 45) (v := ?_) (a' := ?_) #[true, true, true, true, true] rfl rfl (by kernel_rfl) (fun _ _ _ h => h) (Or.inl ⟨by rfl, ?_⟩) ?_ ?_
            rotate_left
            · intro w'
              go_simp
              with_reducible rfl
            rotate_left
            · simp only [Act.put, List.setIfInBounds_toArray, List.set_cons_zero, List.set_cons_succ, i64_w, i32_w]
              rfl
            refine done_ (by kernel_rfl) ?_
            have hnb65 := NB862_849.out
            have hnc65 := NB849_862.out
            have hnb66 := NB862_858.out
            have hnc66 := NB858_862.out
            have hnb67 := NB862_867.out
            have hnc67 := NB867_862.out
            have hcz68_0 : w64.cell? ⟨gb862, 0, none⟩ = some (.slice Ao26 t859.length co26) := (blk_cell BK862.out 0).trans rfl
            have hfz68_0 := blk_frozen BK862.out 0
            go_upto_region 14 with (first | ((with_reducible refine gate_callee (f := 19) rfl ?_); refine goesL_ (some 48) rfl rfl Tryd.func19 (by kernel_rfl) rfl #[.agg #[.slice Ao26 t859.length co26], .int .i64 1] rfl (by (try simp only [List.map_toArray, List.map_cons, List.map_nil]); first | done | rfl | (simp only [List.length_drop, List.length_take]; rfl)) ?_; (with_reducible refine (laws_markTrie.calls kj10 (fun k_ => some k_ = (.slice Ao26 t859.length co26 : Value).ownBlock) (.slice Ao26 t859.length co26) t859 1 t873 t874 w _ ?side1 ?side2 A59.out).mono ?_); (case side1 => repeat (first | (with_reducible first | exact HB.out | apply below_alloc | apply pw_below_drewN | apply below_drew1 | refine below_set ?_ GE849.out | refine below_set ?_ GE858.out | refine below_set ?_ GE862.out | refine below_set ?_ GE867.out) | exact HB.out)); (case side2 => exact Kd.R_tight rfl HO_863000.out); rintro e w69 ⟨rfl, hy0, hb, hkp⟩; refine ⟨_, rfl, ?_⟩; have n0_ := Aside0.mk (Kd.R_mono (ok' := fun k_ => some k_ ≠ (.slice Ao26 t859.length co26 : Value).ownBlock ∧ some k_ ≠ (.slice Ao32 t863.length co32 : Value).ownBlock ∧ some k_ ≠ (.slice Ao63 t869.length co63 : Value).ownBlock) (Kd.R_keptB (HO_859000.out) hkp (fun k_ hk_ hs_ => (hk_.1.1) hs_)) (fun k_ hk_ => ⟨hk_.1.1.1, hk_.1.1.2, hk_.1.2⟩)); have n1_ := Aside0.mk (Kd.R_reok rfl hy0 (fun k_ e_ => HO_863000.out.1 k_ e_)); have n2_ := Aside0.mk (Kd.R_mono (ok' := fun k_ => some k_ ≠ (.slice Ao20 t854.length co20 : Value).ownBlock ∧ some k_ ≠ (.slice Ao26 t859.length co26 : Value).ownBlock ∧ some k_ ≠ (.slice Ao63 t869.length co63 : Value).ownBlock) (Kd.R_keptB (HO_868000.out) hkp (fun k_ hk_ hs_ => (hk_.1.2) hs_)) (fun k_ hk_ => ⟨hk_.1.1.1, hk_.1.1.2, hk_.1.2⟩)); have n3_ := Aside0.mk (blk_kept (by (with_reducible repeat (first | refine blk_drewN ?_ _ | refine blk_drew ?_ | refine blk_alloc ?_ _)); exact BK849.out) hkp (fun hs_ => (fun e_ => (Kd.R_ne HO_863000.out BK849.out (by decide)) e_) hs_)); have n4_ := Aside0.mk (blk_kept (by (with_reducible repeat (first | refine blk_drewN ?_ _ | refine blk_drew ?_ | refine blk_alloc ?_ _)); exact BK858.out) hkp (fun hs_ => (fun e_ => (Kd.R_ne HO_863000.out BK858.out (by decide)) e_) hs_)); have n5_ := Aside0.mk (blk_kept (by (with_reducible repeat (first | refine blk_drewN ?_ _ | refine blk_drew ?_ | refine blk_alloc ?_ _)); exact BK862.out) hkp (fun hs_ => (fun e_ => (Kd.R_ne HO_863000.out BK862.out (by decide)) e_) hs_)); have n6_ := Aside0.mk (blk_kept (by (with_reducible repeat (first | refine blk_drewN ?_ _ | refine blk_drew ?_ | refine blk_alloc ?_ _)); exact BK867.out) hkp (fun hs_ => (fun e_ => (Kd.R_ne HO_863000.out BK867.out (by decide)) e_) hs_)); have n7_ := Aside0.mk (Kd.R_mono (ok' := fun k_ => some k_ ≠ (.slice Ao20 t854.length co20 : Value).ownBlock ∧ some k_ ≠ (.slice Ao26 t859.length co26 : Value).ownBlock ∧ some k_ ≠ (.slice Ao32 t863.length co32 : Value).ownBlock) (Kd.R_keptB (HO871.out) hkp (fun k_ hk_ hs_ => (hk_.1.2) hs_)) (fun k_ hk_ => ⟨hk_.1.1.1.2, hk_.1.1.2, hk_.1.2⟩)); have n8_ := Aside0.mk (hb); clear HO_859000; clear HO_863000; clear HO_868000; clear BK849; clear BK858; clear BK862; clear BK867; clear HO871; clear HB; have HO_859000 := n0_; have HO_863000 := n1_; have HO_868000 := n2_; have BK849 := n3_; have BK858 := n4_; have BK862 := n5_; have BK867 := n6_; have HO871 := n7_; have HB := n8_; clear n0_ n1_ n2_ n3_ n4_ n5_ n6_ n7_ n8_; (try clear hb); (try clear hkp); (try clear hy0)))
            (try simp only [Act.put, List.setIfInBounds_toArray, List.set_cons_zero, List.set_cons_succ])
            go_cut [61] (fun v61 wc => ∃ (kq : Nat) (x61_59 : Bool), v61 = .bool x61_59 ∧ Aside0 (laws_FnExactCloseTrie.j1 kq t857 x61_59 l0_0 t854 t863 = some true) ∧ Aside0 (kq ≤ kj10) ∧ Aside0 (Kd.R k76 76 wc w.heap.size (fun k_ => some k_ ≠ ((.slice Ao26 t859.length co26) : Value).ownBlock ∧ some k_ ≠ ((.slice Ao32 t863.length co32) : Value).ownBlock) (.slice Ao20 t854.length co20) t854) ∧ Aside0 (Kd.R k76 76 wc w.heap.size (fun k_ => some k_ ≠ ((.slice Ao20 t854.length co20) : Value).ownBlock ∧ some k_ ≠ ((.slice Ao32 t863.length co32) : Value).ownBlock) (.slice Ao26 t859.length co26) t874) ∧ Aside0 (Kd.R k76 76 wc w.heap.size (fun k_ => some k_ ≠ ((.slice Ao20 t854.length co20) : Value).ownBlock ∧ some k_ ≠ ((.slice Ao26 t859.length co26) : Value).ownBlock) (.slice Ao32 t863.length co32) t863) ∧ Aside0 (wc.heap[gb849]? = some (.cells #[(.slice A0_0 l0_0.length c0_0)] 36 (0, 0))) ∧ Aside0 (wc.heap[gb858]? = some (.cells #[(.slice Ao20 t854.length co20)] 26 (0, 0))) ∧ Aside0 (wc.heap[gb862]? = some (.cells #[(.slice Ao26 t859.length co26)] 26 (0, 0))) ∧ Aside0 (wc.heap[gb867]? = some (.cells #[(.slice Ao32 t863.length co32)] 26 (0, 0))) ∧ Aside0 (Below w.heap.size w wc))
            case first =>
              have H := HC60.out
              clear HC60
              by_cases c70 : t873 < 0
              · rw [if_pos c70] at H
                exact absurd H (by cases kj10 <;> simp [laws_FnExactCloseTrie.j1])
              · rw [if_neg c70] at H
                have c70b0 : decide (t873 < 0) = false := decide_eq_false c70
                clear c70
                (first | rw [c70b0] | (simp only [i64_w, i32_w]; rw [c70b0]) | skip)
                replace H := Option.bind_eq_some_iff.mp H
                obtain ⟨t875, A710, H⟩ := H
                replace H : (if t875 = true then (laws_FnExactCloseTrie.j1 kj10 t857 (t866 != t857) l0_0 t854 t863) else (laws_FnExactCloseTrie.j1 kj10 t857 true l0_0 t854 t863)) = some true := H
                have A71 := Aside0.mk A710
                clear A710
                by_cases c72 : t875 = true
                · subst c72
                  have H1 : (laws_FnExactCloseTrie.j1 kj10 t857 (t866 != t857) l0_0 t854 t863) = some true := by rw [if_pos rfl] at H; exact H
                  clear H
                  have H := H1
                  clear H1
                  have H' := Aside0.mk H
                  clear H
                  have hnb73 := NB867_849.out
                  have hnc73 := NB849_867.out
                  have hnb74 := NB867_858.out
                  have hnc74 := NB858_867.out
                  have hnb75 := NB867_862.out
                  have hnc75 := NB862_867.out
                  have hcz76_0 : w69.cell? ⟨gb867, 0, none⟩ = some (.slice Ao32 t863.length co32) := (blk_cell BK867.out 0).trans rfl
                  have hfz76_0 := blk_frozen BK867.out 0
                  have hnb77 := NB858_849.out
                  have hnc77 := NB849_858.out
                  have hnb78 := NB858_862.out
                  have hnc78 := NB862_858.out
                  have hcz79_0 : w69.cell? ⟨gb858, 0, none⟩ = some (.slice Ao20 t854.length co20) := (blk_cell BK858.out 0).trans rfl
                  have hfz79_0 := blk_frozen BK858.out 0
                  go_wp2_with (first | (go_at_call 16; (with_reducible refine (laws_eqTrie.calls kj10 _ _ t863 _ _ t854 true _ ?side1 ?side2 ?side3 ?side4 A71.out).mono ?_); (case side1 => repeat (first | exact (Kd.R_reads' HO_868000.out).2.2 | (with_reducible refine Kd.C_alloc ?_ _) | (with_reducible refine Kd.C_drewN ?_ _) | (with_reducible refine Kd.C_drew ?_))); (case side2 => exact (Kd.R_reads' HO_868000.out).2.1); (case side3 => repeat (first | exact (Kd.R_reads' HO_859000.out).2.2 | (with_reducible refine Kd.C_alloc ?_ _) | (with_reducible refine Kd.C_drewN ?_ _) | (with_reducible refine Kd.C_drew ?_))); (case side4 => exact (Kd.R_reads' HO_859000.out).2.1); rintro e w80 ⟨rfl, hb⟩; have n0_ := Aside0.mk (Kd.R_below (by (with_reducible repeat (first | apply Kd.R_alloc | apply Kd.R_drewN | apply Kd.R_drew)); exact HO_859000.out) hb); have n1_ := Aside0.mk (Kd.R_below (by (with_reducible repeat (first | apply Kd.R_alloc | apply Kd.R_drewN | apply Kd.R_drew)); exact HO_863000.out) hb); have n2_ := Aside0.mk (Kd.R_below (by (with_reducible repeat (first | apply Kd.R_alloc | apply Kd.R_drewN | apply Kd.R_drew)); exact HO_868000.out) hb); have n3_ := Aside0.mk (Kd.R_below (by (with_reducible repeat (first | apply Kd.R_alloc | apply Kd.R_drewN | apply Kd.R_drew)); exact HO871.out) hb); have n4_ := Aside0.mk (blk_below (g := gb849) (o := .cells #[.slice A0_0 l0_0.length c0_0] 36 (0, 0)) (by (with_reducible repeat (first | refine blk_drewN ?_ _ | refine blk_drew ?_ | refine blk_alloc ?_ _)); exact BK849.out) hb); have n5_ := Aside0.mk (blk_below (g := gb858) (o := .cells #[.slice Ao20 t854.length co20] 26 (0, 0)) (by (with_reducible repeat (first | refine blk_drewN ?_ _ | refine blk_drew ?_ | refine blk_alloc ?_ _)); exact BK858.out) hb); have n6_ := Aside0.mk (blk_below (g := gb862) (o := .cells #[.slice Ao26 t859.length co26] 26 (0, 0)) (by (with_reducible repeat (first | refine blk_drewN ?_ _ | refine blk_drew ?_ | refine blk_alloc ?_ _)); exact BK862.out) hb); have n7_ := Aside0.mk (blk_below (g := gb867) (o := .cells #[.slice Ao32 t863.length co32] 26 (0, 0)) (by (with_reducible repeat (first | refine blk_drewN ?_ _ | refine blk_drew ?_ | refine blk_alloc ?_ _)); exact BK867.out) hb); have n8_ := Aside0.mk (below_step (by repeat (first | (with_reducible first | exact HB.out | apply below_alloc | apply pw_below_drewN | apply below_drew1 | refine below_set ?_ GE849.out | refine below_set ?_ GE858.out | refine below_set ?_ GE862.out | refine below_set ?_ GE867.out) | exact HB.out)) hb); clear HO_859000; clear HO_863000; clear HO_868000; clear HO871; clear BK849; clear BK858; clear BK862; clear BK867; clear HB; have HO_859000 := n0_; have HO_863000 := n1_; have HO_868000 := n2_; have HO871 := n3_; have BK849 := n4_; have BK858 := n5_; have BK862 := n6_; have BK867 := n7_; have HB := n8_; clear n0_ n1_ n2_ n3_ n4_ n5_ n6_ n7_ n8_; (try clear hb); (try clear hb2); (try clear hk); (try clear hi)))
                  go_meet
                  case rel => exact ⟨_, ((t866 != t857)), (by first | rfl | (simp; done) | (simp [*]; done)), H', ⟨by have := HJ10.out; first | omega | exact Nat.le_refl _⟩, ⟨by (with_reducible repeat (first | apply Kd.R_alloc | apply Kd.R_drewN | apply Kd.R_drew)); exact Kd.R_mono HO_859000.out (fun _ hk => ⟨hk.1, hk.2.1⟩)⟩, ⟨by (with_reducible repeat (first | apply Kd.R_alloc | apply Kd.R_drewN | apply Kd.R_drew)); exact Kd.R_mono HO_863000.out (fun _ hk => ⟨hk.1.1, hk.1.2⟩)⟩, ⟨by (with_reducible repeat (first | apply Kd.R_alloc | apply Kd.R_drewN | apply Kd.R_drew)); exact Kd.R_mono HO_868000.out (fun _ hk => ⟨hk.1, hk.2.1⟩)⟩, ⟨by (with_reducible repeat (first | refine blk_drewN ?_ _ | refine blk_drew ?_ | refine blk_alloc ?_ _)); exact BK849.out⟩, ⟨by (with_reducible repeat (first | refine blk_drewN ?_ _ | refine blk_drew ?_ | refine blk_alloc ?_ _)); exact BK858.out⟩, ⟨by (with_reducible repeat (first | refine blk_drewN ?_ _ | refine blk_drew ?_ | refine blk_alloc ?_ _)); exact BK862.out⟩, ⟨by (with_reducible repeat (first | refine blk_drewN ?_ _ | refine blk_drew ?_ | refine blk_alloc ?_ _)); exact BK867.out⟩, ⟨by repeat (first | (with_reducible first | exact HB.out | apply below_alloc | apply pw_below_drewN | apply below_drew1 | refine below_set ?_ GE849.out | refine below_set ?_ GE858.out | refine below_set ?_ GE862.out | refine below_set ?_ GE867.out) | exact HB.out)⟩⟩
                · replace c72 := Bool.eq_false_iff.mpr c72
                  subst c72
                  have H1 : (laws_FnExactCloseTrie.j1 kj10 t857 true l0_0 t854 t863) = some true := by rw [if_neg (show ¬ (false = true) by decide)] at H; exact H
                  exact absurd H1 (by cases kj10 <;> simp [laws_FnExactCloseTrie.j1])
            case rest =>
              clear HC60
              try clear c1
              try clear c2
              try clear p2
              try clear c3
              try clear c3b0
              try clear c4
              try clear c5
              try clear c6
              try clear c7
              try clear c8
              try clear c10
              try clear c16
              try clear c19
              try clear c21
              try clear c23
              try clear c27
              try clear c28
              try clear c33
              try clear c34
              try clear c35
              try clear c36
              try clear c38
              try clear c39
              try clear c40
              try clear c41
              try clear c43
              try clear c44
              try clear c47
              try clear c48
              try clear c49
              try clear c51
              try clear c52
              try clear c55
              try clear c58
              try clear c65
              try clear c66
              try clear c67
              try clear c70
              try clear c70b0
              try clear c72
              try clear c73
              try clear c74
              try clear c75
              try clear c77
              try clear c78
              try clear c81
              try clear c82
              try clear c83
              try clear c85
              try clear c86
              try clear hcz13_0
              try clear hcz15_0
              try clear hcz22_0
              try clear hcz23_0
              try clear hcz29_0
              try clear hcz36_0
              try clear hcz42_0
              try clear hcz45_0
              try clear hcz50_0
              try clear hcz53_0
              try clear hcz5_0
              try clear hcz68_0
              try clear hcz76_0
              try clear hcz79_0
              try clear hcz84_0
              try clear hcz87_0
              try clear hfz13_0
              try clear hfz15_0
              try clear hfz22_0
              try clear hfz23_0
              try clear hfz29_0
              try clear hfz36_0
              try clear hfz42_0
              try clear hfz45_0
              try clear hfz50_0
              try clear hfz53_0
              try clear hfz5_0
              try clear hfz68_0
              try clear hfz76_0
              try clear hfz79_0
              try clear hfz84_0
              try clear hfz87_0
              try clear p2
              obtain ⟨kq, x61_59, rfl, HA, HJ59, HO_859000, HO_863000, HO_868000, BK849, BK858, BK862, BK867, HB⟩ := hcut
              have hl863000_59 := (Kd.R_reads' HO_863000.out).1
              rw [hl863000_59] at HO_863000
              (try simp only [hl863000_59])
              (try simp only [hl863000_59] at BK849)
              (try simp only [hl863000_59] at BK858)
              (try simp only [hl863000_59] at BK862)
              (try simp only [hl863000_59] at BK867)
              (try simp only [hl863000_59] at HO_859000)
              (try simp only [hl863000_59] at HO_868000)
              cases kq with
              | zero => exact absurd HA.out (by simp [laws_FnExactCloseTrie.j1])
              | succ kj59 =>
                have H := HA.out
                clear HA
                simp only [laws_FnExactCloseTrie.j1] at H
                by_cases c89 : x61_59 = true
                · subst c89
                  have H1 : (some false) = some true := by rw [if_pos rfl] at H; exact H
                  exact absurd H1 (by simp)
                · replace c89 := Bool.eq_false_iff.mpr c89
                  subst c89
                  have H1 : ((laws_markTrie.f kj59 t863 1).bind fun bt876 => ((laws_heldTrie.f kj59 bt876.2 1).bind fun t878 => (if t878 < 0 then (some false) else (if t878 = bt876.1 then ((laws_toTrie.f kj59 l0_0).bind fun t879 => ((impl_CloseTrie.f kj59 t879).bind fun bt882 => ((laws_eqTrie.f kj59 bt882.1 t854).bind fun t887 => (if t887 = true then (laws_FnExactCloseTrie.j2 kj59 bt876.1 (bt882.2 != t857) bt876.2) else (laws_FnExactCloseTrie.j2 kj59 bt876.1 true bt876.2))))) else (some false))))) = some true := by rw [if_neg (show ¬ (false = true) by decide)] at H; exact H
                  clear H
                  have H := H1
                  clear H1
                  replace H := Option.bind_eq_some_iff.mp H
                  obtain ⟨⟨t876, t877⟩, A900, H⟩ := H
                  replace H : ((laws_heldTrie.f kj59 t877 1).bind fun t878 => (if t878 < 0 then (some false) else (if t878 = t876 then ((laws_toTrie.f kj59 l0_0).bind fun t879 => ((impl_CloseTrie.f kj59 t879).bind fun bt882 => ((laws_eqTrie.f kj59 bt882.1 t854).bind fun t887 => (if t887 = true then (laws_FnExactCloseTrie.j2 kj59 t876 (bt882.2 != t857) t877) else (laws_FnExactCloseTrie.j2 kj59 t876 true t877))))) else (some false)))) = some true := H
                  have A90 := Aside0.mk A900
                  clear A900
                  replace H := Option.bind_eq_some_iff.mp H
                  obtain ⟨t878, A910, H⟩ := H
                  replace H : (if t878 < 0 then (some false) else (if t878 = t876 then ((laws_toTrie.f kj59 l0_0).bind fun t879 => ((impl_CloseTrie.f kj59 t879).bind fun bt882 => ((laws_eqTrie.f kj59 bt882.1 t854).bind fun t887 => (if t887 = true then (laws_FnExactCloseTrie.j2 kj59 t876 (bt882.2 != t857) t877) else (laws_FnExactCloseTrie.j2 kj59 t876 true t877))))) else (some false))) = some true := H
                  have A91 := Aside0.mk A910
                  clear A910
                  by_cases c92 : t878 < 0
                  · rw [if_pos c92] at H
                    exact absurd H (by simp)
                  · rw [if_neg c92] at H
                    have c92b0 : decide (t878 < 0) = false := decide_eq_false c92
                    clear c92
                    by_cases c100 : t878 = t876
                    · rw [if_pos c100] at H
                      have c100b0 : (t878 == t876) = true := beq_iff_eq.mpr c100
                      have c100b1 : (t878 != t876) = false := bne_eq_false_iff_eq.mpr c100
                      clear c100
                      replace H := Option.bind_eq_some_iff.mp H
                      obtain ⟨t879, A1010, H⟩ := H
                      replace H : ((impl_CloseTrie.f kj59 t879).bind fun bt882 => ((laws_eqTrie.f kj59 bt882.1 t854).bind fun t887 => (if t887 = true then (laws_FnExactCloseTrie.j2 kj59 t876 (bt882.2 != t857) t877) else (laws_FnExactCloseTrie.j2 kj59 t876 true t877)))) = some true := H
                      have A101 := Aside0.mk A1010
                      clear A1010
                      replace H := Option.bind_eq_some_iff.mp H
                      obtain ⟨⟨t882, t885⟩, A1020, H⟩ := H
                      replace H : ((laws_eqTrie.f kj59 t882 t854).bind fun t887 => (if t887 = true then (laws_FnExactCloseTrie.j2 kj59 t876 (t885 != t857) t877) else (laws_FnExactCloseTrie.j2 kj59 t876 true t877))) = some true := H
                      have A102 := Aside0.mk A1020
                      clear A1020
                      have HC103 := Aside0.mk H
                      clear H
                      have hnb104 := NB867_849.out
                      have hnc104 := NB849_867.out
                      have hnb105 := NB867_858.out
                      have hnc105 := NB858_867.out
                      have hnb106 := NB867_862.out
                      have hnc106 := NB862_867.out
                      have hcz107_0 : wc.cell? ⟨gb867, 0, none⟩ = some (.slice Ao32 t863.length co32) := (blk_cell BK867.out 0).trans rfl
                      have hfz107_0 := blk_frozen BK867.out 0
                      go_upto_region 25 with (first | ((with_reducible refine gate_callee (f := 19) rfl ?_); refine goesL_ (some 64) rfl rfl Tryd.func19 (by kernel_rfl) rfl #[.agg #[.slice Ao32 t863.length co32], .int .i64 1] rfl (by (try simp only [List.map_toArray, List.map_cons, List.map_nil]); first | done | rfl | (simp only [List.length_drop, List.length_take]; rfl)) ?_; (with_reducible refine (laws_markTrie.calls kj59 (fun k_ => some k_ = (.slice Ao32 t863.length co32 : Value).ownBlock) (.slice Ao32 t863.length co32) t863 1 t876 t877 w _ ?side1 ?side2 A90.out).mono ?_); (case side1 => repeat (first | (with_reducible first | exact HB.out | apply below_alloc | apply pw_below_drewN | apply below_drew1 | refine below_set ?_ GE849.out | refine below_set ?_ GE858.out | refine below_set ?_ GE862.out | refine below_set ?_ GE867.out) | exact HB.out)); (case side2 => exact Kd.R_tight rfl HO_868000.out); rintro e w108 ⟨rfl, hy0, hb, hkp⟩; refine ⟨_, rfl, ?_⟩; have n0_ := Aside0.mk (Kd.R_mono (ok' := fun k_ => some k_ ≠ (.slice Ao26 t874.length co26 : Value).ownBlock ∧ some k_ ≠ (.slice Ao32 t863.length co32 : Value).ownBlock) (Kd.R_keptB (HO_859000.out) hkp (fun k_ hk_ hs_ => (hk_.2) hs_)) (fun k_ hk_ => ⟨hk_.1.1, hk_.1.2⟩)); have n1_ := Aside0.mk (Kd.R_mono (ok' := fun k_ => some k_ ≠ (.slice Ao20 t854.length co20 : Value).ownBlock ∧ some k_ ≠ (.slice Ao32 t863.length co32 : Value).ownBlock) (Kd.R_keptB (HO_863000.out) hkp (fun k_ hk_ hs_ => (hk_.2) hs_)) (fun k_ hk_ => ⟨hk_.1.1, hk_.1.2⟩)); have n2_ := Aside0.mk (Kd.R_reok rfl hy0 (fun k_ e_ => HO_868000.out.1 k_ e_)); have n3_ := Aside0.mk (blk_kept (by (with_reducible repeat (first | refine blk_drewN ?_ _ | refine blk_drew ?_ | refine blk_alloc ?_ _)); exact BK849.out) hkp (fun hs_ => (fun e_ => (Kd.R_ne HO_868000.out BK849.out (by decide)) e_) hs_)); have n4_ := Aside0.mk (blk_kept (by (with_reducible repeat (first | refine blk_drewN ?_ _ | refine blk_drew ?_ | refine blk_alloc ?_ _)); exact BK858.out) hkp (fun hs_ => (fun e_ => (Kd.R_ne HO_868000.out BK858.out (by decide)) e_) hs_)); have n5_ := Aside0.mk (blk_kept (by (with_reducible repeat (first | refine blk_drewN ?_ _ | refine blk_drew ?_ | refine blk_alloc ?_ _)); exact BK862.out) hkp (fun hs_ => (fun e_ => (Kd.R_ne HO_868000.out BK862.out (by decide)) e_) hs_)); have n6_ := Aside0.mk (blk_kept (by (with_reducible repeat (first | refine blk_drewN ?_ _ | refine blk_drew ?_ | refine blk_alloc ?_ _)); exact BK867.out) hkp (fun hs_ => (fun e_ => (Kd.R_ne HO_868000.out BK867.out (by decide)) e_) hs_)); have n7_ := Aside0.mk (hb); clear HO_859000; clear HO_863000; clear HO_868000; clear BK849; clear BK858; clear BK862; clear BK867; clear HB; have HO_859000 := n0_; have HO_863000 := n1_; have HO_868000 := n2_; have BK849 := n3_; have BK858 := n4_; have BK862 := n5_; have BK867 := n6_; have HB := n7_; clear n0_ n1_ n2_ n3_ n4_ n5_ n6_ n7_; (try clear hb); (try clear hkp); (try clear hy0); have hcz109_0 : w108.cell? ⟨gb867, 0, none⟩ = some (.slice Ao32 t863.length co32) := (blk_cell BK867.out 0).trans rfl; have hfz109_0 := blk_frozen BK867.out 0) | ((with_reducible refine gate_callee (f := 20) rfl ?_); refine goesL_ (some 67) rfl rfl Tryd.func20 (by kernel_rfl) rfl #[.agg #[.slice Ao32 t877.length co32], .int .i64 1] rfl (by (try simp only [List.map_toArray, List.map_cons, List.map_nil]); first | done | (rw [show t877.length = t863.length from (Kd.R_reads' HO_868000.out).1.symm] <;> rfl) | rfl | (simp only [List.length_drop, List.length_take]; rfl)) ?_; (with_reducible refine (laws_heldTrie.calls kj59 _ _ t877 1 t878 _ ?side1 ?side2 A91.out).mono ?_); (case side1 => repeat (first | exact (Kd.R_reads' HO_868000.out).2.2 | (with_reducible refine Kd.C_alloc ?_ _) | (with_reducible refine Kd.C_drewN ?_ _) | (with_reducible refine Kd.C_drew ?_))); (case side2 => rw [show t877.length = t863.length from (Kd.R_reads' HO_868000.out).1.symm]; exact (Kd.R_reads' HO_868000.out).2.1); rintro e w110 ⟨rfl, hb⟩; refine ⟨_, rfl, ?_⟩; have n0_ := Aside0.mk (Kd.R_below (by (with_reducible repeat (first | apply Kd.R_alloc | apply Kd.R_drewN | apply Kd.R_drew)); exact HO_859000.out) hb); have n1_ := Aside0.mk (Kd.R_below (by (with_reducible repeat (first | apply Kd.R_alloc | apply Kd.R_drewN | apply Kd.R_drew)); exact HO_863000.out) hb); have n2_ := Aside0.mk (Kd.R_below (by (with_reducible repeat (first | apply Kd.R_alloc | apply Kd.R_drewN | apply Kd.R_drew)); exact HO_868000.out) hb); have n3_ := Aside0.mk (blk_below (g := gb849) (o := .cells #[.slice A0_0 l0_0.length c0_0] 36 (0, 0)) (by (with_reducible repeat (first | refine blk_drewN ?_ _ | refine blk_drew ?_ | refine blk_alloc ?_ _)); exact BK849.out) hb); have n4_ := Aside0.mk (blk_below (g := gb858) (o := .cells #[.slice Ao20 t854.length co20] 26 (0, 0)) (by (with_reducible repeat (first | refine blk_drewN ?_ _ | refine blk_drew ?_ | refine blk_alloc ?_ _)); exact BK858.out) hb); have n5_ := Aside0.mk (blk_below (g := gb862) (o := .cells #[.slice Ao26 t874.length co26] 26 (0, 0)) (by (with_reducible repeat (first | refine blk_drewN ?_ _ | refine blk_drew ?_ | refine blk_alloc ?_ _)); exact BK862.out) hb); have n6_ := Aside0.mk (blk_below (g := gb867) (o := .cells #[.slice Ao32 t863.length co32] 26 (0, 0)) (by (with_reducible repeat (first | refine blk_drewN ?_ _ | refine blk_drew ?_ | refine blk_alloc ?_ _)); exact BK867.out) hb); have n7_ := Aside0.mk (below_step (by repeat (first | (with_reducible first | exact HB.out | apply below_alloc | apply pw_below_drewN | apply below_drew1 | refine below_set ?_ GE849.out | refine below_set ?_ GE858.out | refine below_set ?_ GE862.out | refine below_set ?_ GE867.out) | exact HB.out)) hb); clear HO_859000; clear HO_863000; clear HO_868000; clear BK849; clear BK858; clear BK862; clear BK867; clear HB; have HO_859000 := n0_; have HO_863000 := n1_; have HO_868000 := n2_; have BK849 := n3_; have BK858 := n4_; have BK862 := n5_; have BK867 := n6_; have HB := n7_; clear n0_ n1_ n2_ n3_ n4_ n5_ n6_ n7_; (try clear hb); (try clear hb2); (try clear hk); (try clear hi); have hnb111 := NB849_858.out; have hnc111 := NB858_849.out; have hnb112 := NB849_862.out; have hnc112 := NB862_849.out; have hcz113_0 : w110.cell? ⟨gb849, 0, none⟩ = some (.slice A0_0 l0_0.length c0_0) := (blk_cell BK849.out 0).trans rfl; have hfz113_0 := blk_frozen BK849.out 0) | ((with_reducible refine gate_callee (f := 23) rfl ?_); refine goesL_ (some 75) rfl rfl Tryd.func23 (by kernel_rfl) rfl #[.agg #[.slice A0_0 l0_0.length c0_0]] rfl (by (try simp only [List.map_toArray, List.map_cons, List.map_nil]); first | done | rfl | (simp only [List.length_drop, List.length_take]; rfl)) ?_; (with_reducible refine (laws_toTrie.calls kj59 _ _ l0_0 t879 _ ?side1 ?side2 A101.out).mono ?_); (case side1 => repeat (first | exact (Kd.C_below HR0_0.out HB.out) | (with_reducible refine Kd.C_alloc ?_ _) | (with_reducible refine Kd.C_drewN ?_ _) | (with_reducible refine Kd.C_drew ?_))); (case side2 => exact HC0_0.out); rintro e w114 ⟨v880, rfl, ho0, hb⟩; refine ⟨_, rfl, ?_⟩; have n0_ := Aside0.mk (Kd.R_elder' (by (with_reducible repeat (first | apply Kd.R_alloc | apply Kd.R_drewN | apply Kd.R_drew)); exact HO_859000.out) (Kd.R_base ho0) hb); have n1_ := Aside0.mk (Kd.R_elder' (by (with_reducible repeat (first | apply Kd.R_alloc | apply Kd.R_drewN | apply Kd.R_drew)); exact HO_863000.out) (Kd.R_base ho0) hb); have n2_ := Aside0.mk (Kd.R_elder' (by (with_reducible repeat (first | apply Kd.R_alloc | apply Kd.R_drewN | apply Kd.R_drew)); exact HO_868000.out) (Kd.R_base ho0) hb); have n3_ := Aside0.mk (Kd.R_lower (Kd.R_new' (Kd.R_new' (Kd.R_new' ho0 (Kd.R_lt (by (with_reducible repeat (first | apply Kd.R_alloc | apply Kd.R_drewN | apply Kd.R_drew)); exact HO_859000.out))) (Kd.R_lt (by (with_reducible repeat (first | apply Kd.R_alloc | apply Kd.R_drewN | apply Kd.R_drew)); exact HO_863000.out))) (Kd.R_lt (by (with_reducible repeat (first | apply Kd.R_alloc | apply Kd.R_drewN | apply Kd.R_drew)); exact HO_868000.out))) (below_size (by repeat (first | (with_reducible first | exact HB.out | apply below_alloc | apply pw_below_drewN | apply below_drew1 | refine below_set ?_ GE849.out | refine below_set ?_ GE858.out | refine below_set ?_ GE862.out | refine below_set ?_ GE867.out) | exact HB.out)))); have n4_ := Aside0.mk (blk_below (g := gb849) (o := .cells #[.slice A0_0 l0_0.length c0_0] 36 (0, 0)) (by (with_reducible repeat (first | refine blk_drewN ?_ _ | refine blk_drew ?_ | refine blk_alloc ?_ _)); exact BK849.out) hb); have n5_ := Aside0.mk (blk_below (g := gb858) (o := .cells #[.slice Ao20 t854.length co20] 26 (0, 0)) (by (with_reducible repeat (first | refine blk_drewN ?_ _ | refine blk_drew ?_ | refine blk_alloc ?_ _)); exact BK858.out) hb); have n6_ := Aside0.mk (blk_below (g := gb862) (o := .cells #[.slice Ao26 t874.length co26] 26 (0, 0)) (by (with_reducible repeat (first | refine blk_drewN ?_ _ | refine blk_drew ?_ | refine blk_alloc ?_ _)); exact BK862.out) hb); have n7_ := Aside0.mk (blk_below (g := gb867) (o := .cells #[.slice Ao32 t863.length co32] 26 (0, 0)) (by (with_reducible repeat (first | refine blk_drewN ?_ _ | refine blk_drew ?_ | refine blk_alloc ?_ _)); exact BK867.out) hb); have n8_ := Aside0.mk (below_step (by repeat (first | (with_reducible first | exact HB.out | apply below_alloc | apply pw_below_drewN | apply below_drew1 | refine below_set ?_ GE849.out | refine below_set ?_ GE858.out | refine below_set ?_ GE862.out | refine below_set ?_ GE867.out) | exact HB.out)) hb); clear HO_859000; clear HO_863000; clear HO_868000; clear BK849; clear BK858; clear BK862; clear BK867; clear HB; have HO_859000 := n0_; have HO_863000 := n1_; have HO_868000 := n2_; have HO881 := n3_; have BK849 := n4_; have BK858 := n5_; have BK862 := n6_; have BK867 := n7_; have HB := n8_; clear n0_ n1_ n2_ n3_ n4_ n5_ n6_ n7_ n8_; (try clear hb); (try clear hb2); (try clear hk); (try clear hi); (try clear ho0); obtain ⟨Ao115, co115, eo115⟩ := Kd.R_slice HO881.out; subst eo115) | ((with_reducible refine gate_callee (f := 36) rfl ?_); refine goesL_ (some 76) rfl rfl Tryd.func36 (by kernel_rfl) rfl #[.agg #[.slice Ao115 t879.length co115]] rfl (by (try simp only [List.map_toArray, List.map_cons, List.map_nil]); first | done | rfl | (simp only [List.length_drop, List.length_take]; rfl)) ?_; (with_reducible refine (impl_CloseTrie.calls kj59 _ _ t879 t882 t885 _ ?side1 ?side2 A102.out).mono ?_); (case side1 => repeat (first | exact (Kd.R_reads' HO881.out).2.2 | (with_reducible refine Kd.C_alloc ?_ _) | (with_reducible refine Kd.C_drewN ?_ _) | (with_reducible refine Kd.C_drew ?_))); (case side2 => exact (Kd.R_reads' HO881.out).2.1); rintro e w116 ⟨v883, rfl, ho0, hb⟩; refine ⟨_, rfl, ?_⟩; have n0_ := Aside0.mk (Kd.R_elder' (by (with_reducible repeat (first | apply Kd.R_alloc | apply Kd.R_drewN | apply Kd.R_drew)); exact HO_859000.out) (Kd.R_base ho0) hb); have n1_ := Aside0.mk (Kd.R_elder' (by (with_reducible repeat (first | apply Kd.R_alloc | apply Kd.R_drewN | apply Kd.R_drew)); exact HO_863000.out) (Kd.R_base ho0) hb); have n2_ := Aside0.mk (Kd.R_elder' (by (with_reducible repeat (first | apply Kd.R_alloc | apply Kd.R_drewN | apply Kd.R_drew)); exact HO_868000.out) (Kd.R_base ho0) hb); have n3_ := Aside0.mk (Kd.R_elder' (by (with_reducible repeat (first | apply Kd.R_alloc | apply Kd.R_drewN | apply Kd.R_drew)); exact HO881.out) (Kd.R_base ho0) hb); have n4_ := Aside0.mk (Kd.R_lower (Kd.R_new' (Kd.R_new' (Kd.R_new' (Kd.R_new' ho0 (Kd.R_lt (by (with_reducible repeat (first | apply Kd.R_alloc | apply Kd.R_drewN | apply Kd.R_drew)); exact HO_859000.out))) (Kd.R_lt (by (with_reducible repeat (first | apply Kd.R_alloc | apply Kd.R_drewN | apply Kd.R_drew)); exact HO_863000.out))) (Kd.R_lt (by (with_reducible repeat (first | apply Kd.R_alloc | apply Kd.R_drewN | apply Kd.R_drew)); exact HO_868000.out))) (Kd.R_lt (by (with_reducible repeat (first | apply Kd.R_alloc | apply Kd.R_drewN | apply Kd.R_drew)); exact HO881.out))) (below_size (by repeat (first | (with_reducible first | exact HB.out | apply below_alloc | apply pw_below_drewN | apply below_drew1 | refine below_set ?_ GE849.out | refine below_set ?_ GE858.out | refine below_set ?_ GE862.out | refine below_set ?_ GE867.out) | exact HB.out)))); have n5_ := Aside0.mk (blk_below (g := gb849) (o := .cells #[.slice A0_0 l0_0.length c0_0] 36 (0, 0)) (by (with_reducible repeat (first | refine blk_drewN ?_ _ | refine blk_drew ?_ | refine blk_alloc ?_ _)); exact BK849.out) hb); have n6_ := Aside0.mk (blk_below (g := gb858) (o := .cells #[.slice Ao20 t854.length co20] 26 (0, 0)) (by (with_reducible repeat (first | refine blk_drewN ?_ _ | refine blk_drew ?_ | refine blk_alloc ?_ _)); exact BK858.out) hb); have n7_ := Aside0.mk (blk_below (g := gb862) (o := .cells #[.slice Ao26 t874.length co26] 26 (0, 0)) (by (with_reducible repeat (first | refine blk_drewN ?_ _ | refine blk_drew ?_ | refine blk_alloc ?_ _)); exact BK862.out) hb); have n8_ := Aside0.mk (blk_below (g := gb867) (o := .cells #[.slice Ao32 t863.length co32] 26 (0, 0)) (by (with_reducible repeat (first | refine blk_drewN ?_ _ | refine blk_drew ?_ | refine blk_alloc ?_ _)); exact BK867.out) hb); have n9_ := Aside0.mk (below_step (by repeat (first | (with_reducible first | exact HB.out | apply below_alloc | apply pw_below_drewN | apply below_drew1 | refine below_set ?_ GE849.out | refine below_set ?_ GE858.out | refine below_set ?_ GE862.out | refine below_set ?_ GE867.out) | exact HB.out)) hb); clear HO_859000; clear HO_863000; clear HO_868000; clear HO881; clear BK849; clear BK858; clear BK862; clear BK867; clear HB; have HO_859000 := n0_; have HO_863000 := n1_; have HO_868000 := n2_; have HO881 := n3_; have HO884 := n4_; have BK849 := n5_; have BK858 := n6_; have BK862 := n7_; have BK867 := n8_; have HB := n9_; clear n0_ n1_ n2_ n3_ n4_ n5_ n6_ n7_ n8_ n9_; (try clear hb); (try clear hb2); (try clear hk); (try clear hi); (try clear ho0)) | ((with_reducible refine gate_dst (N := 12) rfl ?_); refine box_event ?hg (N := 12) ?hd (cs := #[.slice none 0 0]) (t := 26) ?hr ?_; (case hd => rfl); (case hg => rfl); (case hr => first | (go_simp; done) | (go_simp; rfl)); intro gb886 hg w117 hbox hb; have n0_ := Aside0.mk (Kd.R_below (by (with_reducible repeat (first | apply Kd.R_alloc | apply Kd.R_drewN | apply Kd.R_drew)); exact HO_859000.out) hb); have n1_ := Aside0.mk (Kd.R_below (by (with_reducible repeat (first | apply Kd.R_alloc | apply Kd.R_drewN | apply Kd.R_drew)); exact HO_863000.out) hb); have n2_ := Aside0.mk (Kd.R_below (by (with_reducible repeat (first | apply Kd.R_alloc | apply Kd.R_drewN | apply Kd.R_drew)); exact HO_868000.out) hb); have n3_ := Aside0.mk (Kd.R_below (by (with_reducible repeat (first | apply Kd.R_alloc | apply Kd.R_drewN | apply Kd.R_drew)); exact HO881.out) hb); have n4_ := Aside0.mk (Kd.R_below (by (with_reducible repeat (first | apply Kd.R_alloc | apply Kd.R_drewN | apply Kd.R_drew)); exact HO884.out) hb); have n5_ := Aside0.mk (blk_below (g := gb849) (o := .cells #[.slice A0_0 l0_0.length c0_0] 36 (0, 0)) (by (with_reducible repeat (first | refine blk_drewN ?_ _ | refine blk_drew ?_ | refine blk_alloc ?_ _)); exact BK849.out) hb); have n6_ := Aside0.mk (blk_below (g := gb858) (o := .cells #[.slice Ao20 t854.length co20] 26 (0, 0)) (by (with_reducible repeat (first | refine blk_drewN ?_ _ | refine blk_drew ?_ | refine blk_alloc ?_ _)); exact BK858.out) hb); have n7_ := Aside0.mk (blk_below (g := gb862) (o := .cells #[.slice Ao26 t874.length co26] 26 (0, 0)) (by (with_reducible repeat (first | refine blk_drewN ?_ _ | refine blk_drew ?_ | refine blk_alloc ?_ _)); exact BK862.out) hb); have n8_ := Aside0.mk (blk_below (g := gb867) (o := .cells #[.slice Ao32 t863.length co32] 26 (0, 0)) (by (with_reducible repeat (first | refine blk_drewN ?_ _ | refine blk_drew ?_ | refine blk_alloc ?_ _)); exact BK867.out) hb); have n9_ := Aside0.mk (below_step (by repeat (first | (with_reducible first | exact HB.out | apply below_alloc | apply pw_below_drewN | apply below_drew1 | refine below_set ?_ GE849.out | refine below_set ?_ GE858.out | refine below_set ?_ GE862.out | refine below_set ?_ GE867.out) | exact HB.out)) hb); have n10_ := Aside0.mk (hbox); have n11_ := Aside0.mk ((by rw [hg]; exact (below_size (by repeat (first | (with_reducible first | exact HB.out | apply below_alloc | apply pw_below_drewN | apply below_drew1 | refine below_set ?_ GE849.out | refine below_set ?_ GE858.out | refine below_set ?_ GE862.out | refine below_set ?_ GE867.out) | exact HB.out))) : w.heap.size ≤ gb886)); have n12_ := Aside0.mk ((by rw [hg]; exact (below_size (by repeat (first | (with_reducible first | exact HB.out | apply below_alloc | apply pw_below_drewN | apply below_drew1 | refine below_set ?_ GE849.out | refine below_set ?_ GE858.out | refine below_set ?_ GE862.out | refine below_set ?_ GE867.out) | exact HB.out))) : w.heap.size ≤ gb886)); have n13_ := Aside0.mk ((by rw [hg]; exact Nat.ne_of_lt (blk_lt (g := gb849) (o := .cells #[.slice A0_0 l0_0.length c0_0] 36 (0, 0)) (by (with_reducible repeat (first | refine blk_drewN ?_ _ | refine blk_drew ?_ | refine blk_alloc ?_ _)); exact BK849.out)) : gb849 ≠ gb886)); have n14_ := Aside0.mk ((by rw [hg]; exact Nat.ne_of_gt (blk_lt (g := gb849) (o := .cells #[.slice A0_0 l0_0.length c0_0] 36 (0, 0)) (by (with_reducible repeat (first | refine blk_drewN ?_ _ | refine blk_drew ?_ | refine blk_alloc ?_ _)); exact BK849.out)) : gb886 ≠ gb849)); have n15_ := Aside0.mk ((by rw [hg]; exact Nat.ne_of_lt (blk_lt (g := gb858) (o := .cells #[.slice Ao20 t854.length co20] 26 (0, 0)) (by (with_reducible repeat (first | refine blk_drewN ?_ _ | refine blk_drew ?_ | refine blk_alloc ?_ _)); exact BK858.out)) : gb858 ≠ gb886)); have n16_ := Aside0.mk ((by rw [hg]; exact Nat.ne_of_gt (blk_lt (g := gb858) (o := .cells #[.slice Ao20 t854.length co20] 26 (0, 0)) (by (with_reducible repeat (first | refine blk_drewN ?_ _ | refine blk_drew ?_ | refine blk_alloc ?_ _)); exact BK858.out)) : gb886 ≠ gb858)); have n17_ := Aside0.mk ((by rw [hg]; exact Nat.ne_of_lt (blk_lt (g := gb862) (o := .cells #[.slice Ao26 t874.length co26] 26 (0, 0)) (by (with_reducible repeat (first | refine blk_drewN ?_ _ | refine blk_drew ?_ | refine blk_alloc ?_ _)); exact BK862.out)) : gb862 ≠ gb886)); have n18_ := Aside0.mk ((by rw [hg]; exact Nat.ne_of_gt (blk_lt (g := gb862) (o := .cells #[.slice Ao26 t874.length co26] 26 (0, 0)) (by (with_reducible repeat (first | refine blk_drewN ?_ _ | refine blk_drew ?_ | refine blk_alloc ?_ _)); exact BK862.out)) : gb886 ≠ gb862)); have n19_ := Aside0.mk ((by rw [hg]; exact Nat.ne_of_lt (blk_lt (g := gb867) (o := .cells #[.slice Ao32 t863.length co32] 26 (0, 0)) (by (with_reducible repeat (first | refine blk_drewN ?_ _ | refine blk_drew ?_ | refine blk_alloc ?_ _)); exact BK867.out)) : gb867 ≠ gb886)); have n20_ := Aside0.mk ((by rw [hg]; exact Nat.ne_of_gt (blk_lt (g := gb867) (o := .cells #[.slice Ao32 t863.length co32] 26 (0, 0)) (by (with_reducible repeat (first | refine blk_drewN ?_ _ | refine blk_drew ?_ | refine blk_alloc ?_ _)); exact BK867.out)) : gb886 ≠ gb867)); clear HO_859000; clear HO_863000; clear HO_868000; clear HO881; clear HO884; clear BK849; clear BK858; clear BK862; clear BK867; clear HB; have HO_859000 := n0_; have HO_863000 := n1_; have HO_868000 := n2_; have HO881 := n3_; have HO884 := n4_; have BK849 := n5_; have BK858 := n6_; have BK862 := n7_; have BK867 := n8_; have HB := n9_; have BK886 := n10_; have GW886 := n11_; have GE886 := n12_; have NB849_886 := n13_; have NB886_849 := n14_; have NB858_886 := n15_; have NB886_858 := n16_; have NB862_886 := n17_; have NB886_862 := n18_; have NB867_886 := n19_; have NB886_867 := n20_; clear n0_ n1_ n2_ n3_ n4_ n5_ n6_ n7_ n8_ n9_ n10_ n11_ n12_ n13_ n14_ n15_ n16_ n17_ n18_ n19_ n20_; clear hb hbox hg; obtain ⟨Ao118, co118, eo118⟩ := Kd.R_slice HO884.out; subst eo118; have hnb119 := NB886_849.out; have hnc119 := NB849_886.out; have hnb120 := NB886_858.out; have hnc120 := NB858_886.out; have hnb121 := NB886_862.out; have hnc121 := NB862_886.out; have hnb122 := NB886_867.out; have hnc122 := NB867_886.out; have hcz123_0 : w117.cell? ⟨gb886, 0, none⟩ = some (.slice none 0 0) := (blk_cell BK886.out 0).trans rfl; have hfz123_0 := blk_frozen BK886.out 0))
                      (try simp only [Act.put, List.setIfInBounds_toArray, List.set_cons_zero, List.set_cons_succ])
                      go_cut [87] (fun v87 wc => ∃ (kq : Nat) (x87_102 : Bool), v87 = .bool x87_102 ∧ Aside0 (laws_FnExactCloseTrie.j2 kq t876 x87_102 t877 = some true) ∧ Aside0 (kq ≤ kj59) ∧ Aside0 (Kd.R k76 76 wc w.heap.size (fun k_ => some k_ ≠ ((.slice Ao26 t874.length co26) : Value).ownBlock ∧ some k_ ≠ ((.slice Ao32 t863.length co32) : Value).ownBlock ∧ some k_ ≠ ((.slice Ao118 t882.length co118) : Value).ownBlock) (.slice Ao20 t854.length co20) t854) ∧ Aside0 (Kd.R k76 76 wc w.heap.size (fun k_ => some k_ ≠ ((.slice Ao20 t854.length co20) : Value).ownBlock ∧ some k_ ≠ ((.slice Ao32 t863.length co32) : Value).ownBlock ∧ some k_ ≠ ((.slice Ao118 t882.length co118) : Value).ownBlock) (.slice Ao26 t874.length co26) t874) ∧ Aside0 (Kd.R k76 76 wc w.heap.size (fun k_ => some k_ ≠ ((.slice Ao20 t854.length co20) : Value).ownBlock ∧ some k_ ≠ ((.slice Ao26 t874.length co26) : Value).ownBlock ∧ some k_ ≠ ((.slice Ao118 t882.length co118) : Value).ownBlock) (.slice Ao32 t863.length co32) t877) ∧ Aside0 (Kd.R k76 76 wc w.heap.size (fun k_ => some k_ ≠ ((.slice Ao20 t854.length co20) : Value).ownBlock ∧ some k_ ≠ ((.slice Ao26 t874.length co26) : Value).ownBlock ∧ some k_ ≠ ((.slice Ao32 t863.length co32) : Value).ownBlock) (.slice Ao118 t882.length co118) t882) ∧ Aside0 (wc.heap[gb849]? = some (.cells #[(.slice A0_0 l0_0.length c0_0)] 36 (0, 0))) ∧ Aside0 (wc.heap[gb858]? = some (.cells #[(.slice Ao20 t854.length co20)] 26 (0, 0))) ∧ Aside0 (wc.heap[gb862]? = some (.cells #[(.slice Ao26 t874.length co26)] 26 (0, 0))) ∧ Aside0 (wc.heap[gb867]? = some (.cells #[(.slice Ao32 t863.length co32)] 26 (0, 0))) ∧ Aside0 (wc.heap[gb886]? = some (.cells #[(.slice Ao118 t882.length co118)] 26 (0, 0))) ∧ Aside0 (Below w.heap.size w wc))
                      case first =>
                        have H := HC103.out
                        clear HC103
                        replace H := Option.bind_eq_some_iff.mp H
                        obtain ⟨t887, A1240, H⟩ := H
                        replace H : (if t887 = true then (laws_FnExactCloseTrie.j2 kj59 t876 (t885 != t857) t877) else (laws_FnExactCloseTrie.j2 kj59 t876 true t877)) = some true := H
                        have A124 := Aside0.mk A1240
                        clear A1240
                        by_cases c125 : t887 = true
                        · subst c125
                          have H1 : (laws_FnExactCloseTrie.j2 kj59 t876 (t885 != t857) t877) = some true := by rw [if_pos rfl] at H; exact H
                          clear H
                          have H := H1
                          clear H1
                          have H' := Aside0.mk H
                          clear H
                          have hnb126 := NB886_849.out
                          have hnc126 := NB849_886.out
                          have hnb127 := NB886_858.out
                          have hnc127 := NB858_886.out
                          have hnb128 := NB886_862.out
                          have hnc128 := NB862_886.out
                          have hnb129 := NB886_867.out
                          have hnc129 := NB867_886.out
                          have hcz130_0 : w117.cell? ⟨gb886, 0, none⟩ = some (.slice none 0 0) := (blk_cell BK886.out 0).trans rfl
                          have hfz130_0 := blk_frozen BK886.out 0
                          have hnb131 := NB858_849.out
                          have hnc131 := NB849_858.out
                          have hnb132 := NB858_862.out
                          have hnc132 := NB862_858.out
                          have hnb133 := NB858_867.out
                          have hnc133 := NB867_858.out
                          have hcz134_0 : w117.cell? ⟨gb858, 0, none⟩ = some (.slice Ao20 t854.length co20) := (blk_cell BK858.out 0).trans rfl
                          have hfz134_0 := blk_frozen BK858.out 0
                          go_wp2_with (first | ((with_reducible refine gate_callee (f := 16) rfl ?_); refine goesL_ (some 81) rfl rfl Tryd.func16 (by kernel_rfl) rfl #[.agg #[.slice Ao118 t882.length co118], .agg #[.slice Ao20 t854.length co20]] rfl (by (try simp only [List.map_toArray, List.map_cons, List.map_nil]); first | done | rfl | (simp only [List.length_drop, List.length_take]; rfl)) ?_; (with_reducible refine (laws_eqTrie.calls kj59 _ _ t882 _ _ t854 true _ ?side1 ?side2 ?side3 ?side4 A124.out).mono ?_); (case side1 => refine (Kd.R_reads' (e := 76) (base := w.heap.size) (ok := fun k_ => ((((True ∧ some k_ ≠ (.slice Ao20 t854.length co20 : Value).ownBlock) ∧ some k_ ≠ (.slice Ao26 t874.length co26 : Value).ownBlock) ∧ some k_ ≠ (.slice Ao32 t863.length co32 : Value).ownBlock) ∧ some k_ ≠ (.slice Ao115 t879.length co115 : Value).ownBlock)) (n := t882.length) (c := co118) ?_).2.2; exact (by (with_reducible repeat (first | apply Kd.R_alloc | apply Kd.R_drewN | apply Kd.R_drew)); exact (Kd.R_mono (R_same_ (Kd.R_far (p := ⟨gb886, 0, none⟩) (Kd.R_types HO884.out BK886.out (by decide)) (fun _ hk => hk.2) (.slice Ao118 t882.length co118)) rfl) (fun _ h_ => h_.1)))); (case side2 => exact (Kd.R_reads' HO884.out).2.1); (case side3 => refine (Kd.R_reads' (e := 76) (base := w.heap.size) (ok := fun k_ => (((some k_ ≠ (.slice Ao26 t874.length co26 : Value).ownBlock ∧ some k_ ≠ (.slice Ao32 t863.length co32 : Value).ownBlock) ∧ some k_ ≠ (.slice Ao115 t879.length co115 : Value).ownBlock) ∧ some k_ ≠ (.slice Ao118 t882.length co118 : Value).ownBlock)) (n := t854.length) (c := co20) ?_).2.2; exact (by (with_reducible repeat (first | apply Kd.R_alloc | apply Kd.R_drewN | apply Kd.R_drew)); exact (Kd.R_mono (R_same_ (Kd.R_far (p := ⟨gb886, 0, none⟩) (Kd.R_types HO_859000.out BK886.out (by decide)) (fun _ hk => hk.2) (.slice Ao118 t882.length co118)) rfl) (fun _ h_ => h_.1)))); (case side4 => exact (Kd.R_reads' HO_859000.out).2.1); rintro e w135 ⟨rfl, hb⟩; refine ⟨_, rfl, ?_⟩; have n0_ := Aside0.mk (Kd.R_below (by (with_reducible repeat (first | apply Kd.R_alloc | apply Kd.R_drewN | apply Kd.R_drew)); exact (Kd.R_mono (R_same_ (Kd.R_far (p := ⟨gb886, 0, none⟩) (Kd.R_types HO_859000.out BK886.out (by decide)) (fun _ hk => hk.2) (.slice Ao118 t882.length co118)) rfl) (fun _ h_ => h_.1))) hb); have n1_ := Aside0.mk (Kd.R_below (by (with_reducible repeat (first | apply Kd.R_alloc | apply Kd.R_drewN | apply Kd.R_drew)); exact (Kd.R_mono (R_same_ (Kd.R_far (p := ⟨gb886, 0, none⟩) (Kd.R_types HO_863000.out BK886.out (by decide)) (fun _ hk => hk.2) (.slice Ao118 t882.length co118)) rfl) (fun _ h_ => h_.1))) hb); have n2_ := Aside0.mk (Kd.R_below (by (with_reducible repeat (first | apply Kd.R_alloc | apply Kd.R_drewN | apply Kd.R_drew)); exact (Kd.R_mono (R_same_ (Kd.R_far (p := ⟨gb886, 0, none⟩) (Kd.R_types HO_868000.out BK886.out (by decide)) (fun _ hk => hk.2) (.slice Ao118 t882.length co118)) rfl) (fun _ h_ => h_.1))) hb); have n3_ := Aside0.mk (Kd.R_below (by (with_reducible repeat (first | apply Kd.R_alloc | apply Kd.R_drewN | apply Kd.R_drew)); exact (Kd.R_mono (R_same_ (Kd.R_far (p := ⟨gb886, 0, none⟩) (Kd.R_types HO881.out BK886.out (by decide)) (fun _ hk => hk.2) (.slice Ao118 t882.length co118)) rfl) (fun _ h_ => h_.1))) hb); have n4_ := Aside0.mk (Kd.R_below (by (with_reducible repeat (first | apply Kd.R_alloc | apply Kd.R_drewN | apply Kd.R_drew)); exact (Kd.R_mono (R_same_ (Kd.R_far (p := ⟨gb886, 0, none⟩) (Kd.R_types HO884.out BK886.out (by decide)) (fun _ hk => hk.2) (.slice Ao118 t882.length co118)) rfl) (fun _ h_ => h_.1))) hb); have n5_ := Aside0.mk (blk_below (g := gb849) (o := .cells #[.slice A0_0 l0_0.length c0_0] 36 (0, 0)) (by (with_reducible repeat (first | refine blk_drewN ?_ _ | refine blk_drew ?_ | refine blk_alloc ?_ _)); refine blk_far ?_ NB849_886.out _; (with_reducible repeat (first | refine blk_drewN ?_ _ | refine blk_drew ?_ | refine blk_alloc ?_ _)); exact BK849.out) hb); have n6_ := Aside0.mk (blk_below (g := gb858) (o := .cells #[.slice Ao20 t854.length co20] 26 (0, 0)) (by (with_reducible repeat (first | refine blk_drewN ?_ _ | refine blk_drew ?_ | refine blk_alloc ?_ _)); refine blk_far ?_ NB858_886.out _; (with_reducible repeat (first | refine blk_drewN ?_ _ | refine blk_drew ?_ | refine blk_alloc ?_ _)); exact BK858.out) hb); have n7_ := Aside0.mk (blk_below (g := gb862) (o := .cells #[.slice Ao26 t874.length co26] 26 (0, 0)) (by (with_reducible repeat (first | refine blk_drewN ?_ _ | refine blk_drew ?_ | refine blk_alloc ?_ _)); refine blk_far ?_ NB862_886.out _; (with_reducible repeat (first | refine blk_drewN ?_ _ | refine blk_drew ?_ | refine blk_alloc ?_ _)); exact BK862.out) hb); have n8_ := Aside0.mk (blk_below (g := gb867) (o := .cells #[.slice Ao32 t863.length co32] 26 (0, 0)) (by (with_reducible repeat (first | refine blk_drewN ?_ _ | refine blk_drew ?_ | refine blk_alloc ?_ _)); refine blk_far ?_ NB867_886.out _; (with_reducible repeat (first | refine blk_drewN ?_ _ | refine blk_drew ?_ | refine blk_alloc ?_ _)); exact BK867.out) hb); have n9_ := Aside0.mk (blk_below (g := gb886) (o := .cells #[.slice Ao118 t882.length co118] 26 (0, 0)) (by (with_reducible repeat (first | refine blk_drewN ?_ _ | refine blk_drew ?_ | refine blk_alloc ?_ _)); refine blk_put (cs := #[.slice none 0 0]) ?_ 0 _ rfl; (with_reducible repeat (first | refine blk_drewN ?_ _ | refine blk_drew ?_ | refine blk_alloc ?_ _)); exact BK886.out) hb); have n10_ := Aside0.mk (below_step (by repeat (first | (with_reducible first | exact HB.out | apply below_alloc | apply pw_below_drewN | apply below_drew1 | refine below_set ?_ GE849.out | refine below_set ?_ GE858.out | refine below_set ?_ GE862.out | refine below_set ?_ GE867.out | refine below_set ?_ GE886.out) | exact HB.out)) hb); clear HO_859000; clear HO_863000; clear HO_868000; clear HO881; clear HO884; clear BK849; clear BK858; clear BK862; clear BK867; clear BK886; clear HB; have HO_859000 := n0_; have HO_863000 := n1_; have HO_868000 := n2_; have HO881 := n3_; have HO884 := n4_; have BK849 := n5_; have BK858 := n6_; have BK862 := n7_; have BK867 := n8_; have BK886 := n9_; have HB := n10_; clear n0_ n1_ n2_ n3_ n4_ n5_ n6_ n7_ n8_ n9_ n10_; (try clear hb); (try clear hb2); (try clear hk); (try clear hi)))
                          go_meet
                          case rel => exact ⟨_, ((t885 != t857)), (by first | rfl | (simp; done) | (simp [*]; done)), H', ⟨by have := HJ10.out; have := HJ59.out; first | omega | exact Nat.le_refl _⟩, ⟨by (try simp only [hl863000_59]); (with_reducible repeat (first | apply Kd.R_alloc | apply Kd.R_drewN | apply Kd.R_drew)); exact Kd.R_mono HO_859000.out (fun _ hk => ⟨hk.1.1.1, ⟨hk.1.1.2, hk.2⟩⟩)⟩, ⟨by (try simp only [hl863000_59]); (with_reducible repeat (first | apply Kd.R_alloc | apply Kd.R_drewN | apply Kd.R_drew)); exact Kd.R_mono HO_863000.out (fun _ hk => ⟨hk.1.1.1, ⟨hk.1.1.2, hk.2⟩⟩)⟩, ⟨by (try simp only [hl863000_59]); (with_reducible repeat (first | apply Kd.R_alloc | apply Kd.R_drewN | apply Kd.R_drew)); exact Kd.R_mono HO_868000.out (fun _ hk => ⟨hk.1.1.1, ⟨hk.1.1.2, hk.2⟩⟩)⟩, ⟨by (try simp only [hl863000_59]); (with_reducible repeat (first | apply Kd.R_alloc | apply Kd.R_drewN | apply Kd.R_drew)); exact Kd.R_mono HO884.out (fun _ hk => ⟨hk.1.1.1.2, ⟨hk.1.1.2, hk.1.2⟩⟩)⟩, ⟨by (try simp only [hl863000_59]); (with_reducible repeat (first | refine blk_drewN ?_ _ | refine blk_drew ?_ | refine blk_alloc ?_ _)); exact BK849.out⟩, ⟨by (try simp only [hl863000_59]); (with_reducible repeat (first | refine blk_drewN ?_ _ | refine blk_drew ?_ | refine blk_alloc ?_ _)); exact BK858.out⟩, ⟨by (try simp only [hl863000_59]); (with_reducible repeat (first | refine blk_drewN ?_ _ | refine blk_drew ?_ | refine blk_alloc ?_ _)); exact BK862.out⟩, ⟨by (try simp only [hl863000_59]); (with_reducible repeat (first | refine blk_drewN ?_ _ | refine blk_drew ?_ | refine blk_alloc ?_ _)); exact BK867.out⟩, ⟨by (try simp only [hl863000_59]); (with_reducible repeat (first | refine blk_drewN ?_ _ | refine blk_drew ?_ | refine blk_alloc ?_ _)); exact BK886.out⟩, ⟨by repeat (first | (with_reducible first | exact HB.out | apply below_alloc | apply pw_below_drewN | apply below_drew1 | refine below_set ?_ GE849.out | refine below_set ?_ GE858.out | refine below_set ?_ GE862.out | refine below_set ?_ GE867.out | refine below_set ?_ GE886.out) | exact HB.out)⟩⟩
                        · replace c125 := Bool.eq_false_iff.mpr c125
                          subst c125
                          have H1 : (laws_FnExactCloseTrie.j2 kj59 t876 true t877) = some true := by rw [if_neg (show ¬ (false = true) by decide)] at H; exact H
                          exact absurd H1 (by cases kj59 <;> simp [laws_FnExactCloseTrie.j2])
                      case rest =>
                        clear HC103
                        try clear c1
                        try clear c2
                        try clear p2
                        try clear c3
                        try clear c3b0
                        try clear c4
                        try clear c5
                        try clear c6
                        try clear c7
                        try clear c8
                        try clear c9
                        try clear c10
                        try clear c11
                        try clear c12
                        try clear c13
                        try clear c14
                        try clear c16
                        try clear c19
                        try clear c20
                        try clear c21
                        try clear c23
                        try clear c27
                        try clear c28
                        try clear c33
                        try clear c34
                        try clear c35
                        try clear c36
                        try clear c38
                        try clear c39
                        try clear c40
                        try clear c41
                        try clear c43
                        try clear c44
                        try clear c47
                        try clear c48
                        try clear c49
                        try clear c51
                        try clear c52
                        try clear c55
                        try clear c58
                        try clear c65
                        try clear c66
                        try clear c67
                        try clear c70
                        try clear c70b0
                        try clear c72
                        try clear c73
                        try clear c74
                        try clear c75
                        try clear c77
                        try clear c78
                        try clear c81
                        try clear c82
                        try clear c83
                        try clear c85
                        try clear c86
                        try clear c89
                        try clear c92
                        try clear c92b0
                        try clear c93
                        try clear c94
                        try clear c95
                        try clear c100
                        try clear c100b0
                        try clear c100b1
                        try clear c104
                        try clear c105
                        try clear c106
                        try clear c111
                        try clear c112
                        try clear c119
                        try clear c120
                        try clear c121
                        try clear c122
                        try clear c125
                        try clear c126
                        try clear c127
                        try clear c128
                        try clear c129
                        try clear c131
                        try clear c132
                        try clear c133
                        try clear c136
                        try clear c137
                        try clear c138
                        try clear c139
                        try clear c141
                        try clear c142
                        try clear c143
                        try clear hcz107_0
                        try clear hcz109_0
                        try clear hcz113_0
                        try clear hcz123_0
                        try clear hcz130_0
                        try clear hcz134_0
                        try clear hcz13_0
                        try clear hcz140_0
                        try clear hcz144_0
                        try clear hcz15_0
                        try clear hcz22_0
                        try clear hcz23_0
                        try clear hcz29_0
                        try clear hcz36_0
                        try clear hcz42_0
                        try clear hcz45_0
                        try clear hcz50_0
                        try clear hcz53_0
                        try clear hcz5_0
                        try clear hcz68_0
                        try clear hcz76_0
                        try clear hcz79_0
                        try clear hcz84_0
                        try clear hcz87_0
                        try clear hcz96_0
                        try clear hcz98_0
                        try clear hfz107_0
                        try clear hfz109_0
                        try clear hfz113_0
                        try clear hfz123_0
                        try clear hfz130_0
                        try clear hfz134_0
                        try clear hfz13_0
                        try clear hfz140_0
                        try clear hfz144_0
                        try clear hfz15_0
                        try clear hfz22_0
                        try clear hfz23_0
                        try clear hfz29_0
                        try clear hfz36_0
                        try clear hfz42_0
                        try clear hfz45_0
                        try clear hfz50_0
                        try clear hfz53_0
                        try clear hfz5_0
                        try clear hfz68_0
                        try clear hfz76_0
                        try clear hfz79_0
                        try clear hfz84_0
                        try clear hfz87_0
                        try clear hfz96_0
                        try clear hfz98_0
                        try clear p2
                        obtain ⟨kq, x87_102, rfl, HA, HJ102, HO_859000, HO_863000, HO_868000, HO_887000, BK849, BK858, BK862, BK867, BK886, HB⟩ := hcut
                        have hl868000_102 := (Kd.R_reads' HO_868000.out).1
                        rw [hl868000_102] at HO_868000
                        (try simp only [hl868000_102])
                        (try simp only [hl868000_102] at BK849)
                        (try simp only [hl868000_102] at BK858)
                        (try simp only [hl868000_102] at BK862)
                        (try simp only [hl868000_102] at BK867)
                        (try simp only [hl868000_102] at BK886)
                        (try simp only [hl868000_102] at HO_859000)
                        (try simp only [hl868000_102] at HO_863000)
                        (try simp only [hl868000_102] at HO_887000)
                        cases kq with
                        | zero => exact absurd HA.out (by simp [laws_FnExactCloseTrie.j2])
                        | succ kj102 =>
                          have H := HA.out
                          clear HA
                          simp only [laws_FnExactCloseTrie.j2] at H
                          by_cases c146 : x87_102 = true
                          · subst c146
                            have H1 : (some false) = some true := by rw [if_pos rfl] at H; exact H
                            exact absurd H1 (by simp)
                          · replace c146 := Bool.eq_false_iff.mpr c146
                            subst c146
                            have H1 : ((laws_heldTrie.f kj102 t877 1).bind fun t888 => (if t888 < 0 then (some false) else (if t888 = t876 then (some true) else (some false)))) = some true := by rw [if_neg (show ¬ (false = true) by decide)] at H; exact H
                            clear H
                            have H := H1
                            clear H1
                            replace H := Option.bind_eq_some_iff.mp H
                            obtain ⟨t888, A1470, H⟩ := H
                            replace H : (if t888 < 0 then (some false) else (if t888 = t876 then (some true) else (some false))) = some true := H
                            have A147 := Aside0.mk A1470
                            clear A1470
                            by_cases c148 : t888 < 0
                            · rw [if_pos c148] at H
                              exact absurd H (by simp)
                            · rw [if_neg c148] at H
                              have c148b0 : decide (t888 < 0) = false := decide_eq_false c148
                              clear c148
                              by_cases c155 : t888 = t876
                              · rw [if_pos c155] at H
                                have c155b0 : (t888 == t876) = true := beq_iff_eq.mpr c155
                                have c155b1 : (t888 != t876) = false := bne_eq_false_iff_eq.mpr c155
                                clear c155
                                (first | (obtain rfl := Option.some.inj H) | (have hH_ := Option.some.inj H; try simp only [hH_]))
                                have hnb156 := NB867_849.out
                                have hnc156 := NB849_867.out
                                have hnb157 := NB867_858.out
                                have hnc157 := NB858_867.out
                                have hnb158 := NB867_862.out
                                have hnc158 := NB862_867.out
                                have hnb159 := NB867_886.out
                                have hnc159 := NB886_867.out
                                have hcz160_0 : wc.cell? ⟨gb867, 0, none⟩ = some (.slice Ao32 t877.length co32) := (blk_cell BK867.out 0).trans rfl
                                have hfz160_0 := blk_frozen BK867.out 0
                                go_wp2_with (first | ((with_reducible refine gate_callee (f := 20) rfl ?_); refine goesL_ (some 90) rfl rfl Tryd.func20 (by kernel_rfl) rfl #[.agg #[.slice Ao32 t877.length co32], .int .i64 1] rfl (by (try simp only [List.map_toArray, List.map_cons, List.map_nil]); first | done | rfl | (simp only [List.length_drop, List.length_take]; rfl)) ?_; (with_reducible refine (laws_heldTrie.calls kj102 _ _ t877 1 t888 _ ?side1 ?side2 A147.out).mono ?_); (case side1 => repeat (first | exact (Kd.R_reads' HO_868000.out).2.2 | (with_reducible refine Kd.C_alloc ?_ _) | (with_reducible refine Kd.C_drewN ?_ _) | (with_reducible refine Kd.C_drew ?_))); (case side2 => exact (Kd.R_reads' HO_868000.out).2.1); rintro e w161 ⟨rfl, hb⟩; refine ⟨_, rfl, ?_⟩; have n0_ := Aside0.mk (Kd.R_below (by (with_reducible repeat (first | apply Kd.R_alloc | apply Kd.R_drewN | apply Kd.R_drew)); exact HO_859000.out) hb); have n1_ := Aside0.mk (Kd.R_below (by (with_reducible repeat (first | apply Kd.R_alloc | apply Kd.R_drewN | apply Kd.R_drew)); exact HO_863000.out) hb); have n2_ := Aside0.mk (Kd.R_below (by (with_reducible repeat (first | apply Kd.R_alloc | apply Kd.R_drewN | apply Kd.R_drew)); exact HO_868000.out) hb); have n3_ := Aside0.mk (Kd.R_below (by (with_reducible repeat (first | apply Kd.R_alloc | apply Kd.R_drewN | apply Kd.R_drew)); exact HO_887000.out) hb); have n4_ := Aside0.mk (blk_below (g := gb849) (o := .cells #[.slice A0_0 l0_0.length c0_0] 36 (0, 0)) (by (with_reducible repeat (first | refine blk_drewN ?_ _ | refine blk_drew ?_ | refine blk_alloc ?_ _)); exact BK849.out) hb); have n5_ := Aside0.mk (blk_below (g := gb858) (o := .cells #[.slice Ao20 t854.length co20] 26 (0, 0)) (by (with_reducible repeat (first | refine blk_drewN ?_ _ | refine blk_drew ?_ | refine blk_alloc ?_ _)); exact BK858.out) hb); have n6_ := Aside0.mk (blk_below (g := gb862) (o := .cells #[.slice Ao26 t874.length co26] 26 (0, 0)) (by (with_reducible repeat (first | refine blk_drewN ?_ _ | refine blk_drew ?_ | refine blk_alloc ?_ _)); exact BK862.out) hb); have n7_ := Aside0.mk (blk_below (g := gb867) (o := .cells #[.slice Ao32 t877.length co32] 26 (0, 0)) (by (with_reducible repeat (first | refine blk_drewN ?_ _ | refine blk_drew ?_ | refine blk_alloc ?_ _)); exact BK867.out) hb); have n8_ := Aside0.mk (blk_below (g := gb886) (o := .cells #[.slice Ao118 t882.length co118] 26 (0, 0)) (by (with_reducible repeat (first | refine blk_drewN ?_ _ | refine blk_drew ?_ | refine blk_alloc ?_ _)); exact BK886.out) hb); have n9_ := Aside0.mk (below_step (by repeat (first | (with_reducible first | exact HB.out | apply below_alloc | apply pw_below_drewN | apply below_drew1 | refine below_set ?_ GE849.out | refine below_set ?_ GE858.out | refine below_set ?_ GE862.out | refine below_set ?_ GE867.out | refine below_set ?_ GE886.out) | exact HB.out)) hb); clear HO_859000; clear HO_863000; clear HO_868000; clear HO_887000; clear BK849; clear BK858; clear BK862; clear BK867; clear BK886; clear HB; have HO_859000 := n0_; have HO_863000 := n1_; have HO_868000 := n2_; have HO_887000 := n3_; have BK849 := n4_; have BK858 := n5_; have BK862 := n6_; have BK867 := n7_; have BK886 := n8_; have HB := n9_; clear n0_ n1_ n2_ n3_ n4_ n5_ n6_ n7_ n8_ n9_; (try clear hb); (try clear hb2); (try clear hk); (try clear hi)))
                                go_ret
                                exact ⟨by first | rfl | (simp [errW_none, errW_some] <;> rfl) | (simp [*, errW_none, errW_some] <;> rfl), by repeat (first | (with_reducible first | exact HB.out | apply below_alloc | apply pw_below_drewN | apply below_drew1 | refine below_set ?_ GE849.out | refine below_set ?_ GE858.out | refine below_set ?_ GE862.out | refine below_set ?_ GE867.out | refine below_set ?_ GE886.out) | exact HB.out)⟩
                              · rw [if_neg c155] at H
                                exact absurd H (by simp)
                    · rw [if_neg c100] at H
                      exact absurd H (by simp)
          · replace c58 := Bool.eq_false_iff.mpr c58
            subst c58
            have H1 : (some false) = some true := by rw [if_neg (show ¬ (false = true) by decide)] at H; exact H
            exact absurd H1 (by simp)
end Go.Proofs.YtefcbnlljpdjnaaDoor.Q
namespace Go.Proofs.YtefcbnlljpdjnaaDoor.Q
open Go.RowKit Go.Proofs.YtefcbnlljpdjnaaDoorW.PrintWords Go.Proofs.YtefcbnlljpdjnaaDoorW.PrintLast
def pfx0 (w : ByteArray) (n : Nat) : List ByteArray := (List.range n).map fun j => w.extract 0 j
def clW (ws : List ByteArray) : List ByteArray := ws.flatMap fun w => pfx0 w (w.size + 1)
theorem pfx0_succ (w : ByteArray) (n : Nat) : pfx0 w (n + 1) = pfx0 w n ++ [w.extract 0 n] := by simp [pfx0, List.range_succ]
theorem setW_snoc (l : List ByteArray) (w : ByteArray) : setW (w :: setW l) = setW (l ++ [w]) := setW_cons_set w l
theorem pfx0_le (w : ByteArray) (n : Nat) : ∀ x ∈ pfx0 w n, x.size ≤ w.size := fun x hx => by
  obtain ⟨j, _, rfl⟩ := List.mem_map.1 hx
  rw [ByteArray.size_extract]; omega
theorem closed_l0 (ws : List ByteArray) (h12 : ∀ w ∈ ws, w.size ≤ 12) (hl : ws.length ≤ 40) : ∀ (n i : Nat), i + n = ws.length → Ev (fun k => spec_l5Closed.l0 k ws (setW (clW (ws.take i))) (i : Int)) (setW (clW ws)) := by
  intro n
  induction n with
  | zero =>
    intro i h
    refine Ev.succ ?_
    simp only [spec_l5Closed.l0]
    rw [List.take_of_length_le (by omega)]
    exact Ev.neg (by omega) (Ev.pure _)
  | succ n ih =>
    intro i h
    have hi : i < ws.length := by omega
    have hs := h12 _ (List.getElem_mem hi)
    refine Ev.succ ?_
    simp only [spec_l5Closed.l0]
    refine Ev.pos (by omega) ?_
    have inner : ∀ (m j : Nat), j + m = ws[i].size + 1 → Ev (fun k => spec_l5Closed.l1 k ws (setW (clW (ws.take i) ++ pfx0 ws[i] j)) (i : Int) (j : Int)) (setW (clW ws)) := by
      intro m
      induction m with
      | zero =>
        intro j hj
        refine Ev.succ ?_
        simp only [spec_l5Closed.l1]
        rw [rd_nat ws hi, wnext i (by omega)]
        have e : clW (ws.take i) ++ pfx0 ws[i] j = clW (ws.take (i + 1)) := by
          rw [show j = ws[i].size + 1 by omega, List.take_succ_eq_append_getElem hi]
          simp only [clW, List.flatMap_append, List.flatMap_cons, List.flatMap_nil, List.append_nil]
        rw [e]
        exact Ev.pos (by omega) (Ev.pos (by omega) (Ev.neg (by omega) (ih (i + 1) (by omega))))
      | succ m ihm =>
        intro j hj
        refine Ev.succ ?_
        simp only [spec_l5Closed.l1]
        rw [rd_nat ws hi, wnext j (by omega)]
        have hlen : (clW (ws.take i) ++ pfx0 ws[i] j).length ≤ 4294967296 := by
          have h1 : ∀ (l : List ByteArray), (∀ w ∈ l, w.size ≤ 12) → (clW l).length ≤ 13 * l.length := by
            intro l hl
            induction l with
            | nil => exact Nat.le_refl _
            | cons w l ihl =>
              have a := hl w (List.mem_cons_self ..)
              have b := ihl (fun x hx => hl x (List.mem_cons_of_mem _ hx))
              simp only [clW, List.flatMap_cons, List.length_append, List.length_cons, pfx0, List.length_map, List.length_range] at b ⊢
              omega
          have h2 := h1 (ws.take i) (fun w hw => h12 w (List.mem_of_mem_take hw))
          rw [List.length_take] at h2
          simp only [List.length_append, pfx0, List.length_map, List.length_range]
          omega
        have hp := put_ev (setW (clW (ws.take i) ++ pfx0 ws[i] j)) (ws[i].extract 0 j) (Nat.le_trans (setW_len _) hlen) (fun x hx => by
          rcases List.mem_append.1 (mem_setW.1 hx) with hx | hx
          · obtain ⟨w, hw, hx⟩ := List.mem_flatMap.1 hx
            have a := pfx0_le w _ x hx
            have b := h12 w (List.mem_of_mem_take hw)
            omega
          · have a := pfx0_le _ _ x hx
            omega) (setW_ss _)
        rw [setW_snoc, List.append_assoc, ← pfx0_succ] at hp
        refine Ev.pos (by omega) (Ev.pos (by omega) (Ev.pos (by omega) (Ev.pos (by omega) ?_)))
        rw [Int.toNat_natCast]
        exact Ev.bind hp (ihm (j + 1) (by omega))
    have := inner (ws[i].size + 1) 0 (by omega)
    simpa [pfx0] using this
theorem closed_ev (ws : List ByteArray) (h12 : ∀ w ∈ ws, w.size ≤ 12) (hl : ws.length ≤ 40) : Ev (fun k => spec_l5Closed.f k ws) (setW (clW ws)) := by
  unfold spec_l5Closed.f
  have := closed_l0 ws h12 hl ws.length 0 (by omega)
  have e : setW (clW (ws.take 0)) = [] := by rw [List.take_zero]; exact setW_of_ss (List.Pairwise.nil)
  rwa [e] at this
theorem clW_pref {ws : List ByteArray} (h : ws ≠ []) : setW (clW ws) = prefW ws := by
  refine ss_ext (setW_ss _) (prefW_ss _) (fun x => ?_)
  rw [mem_setW, mem_prefW]
  constructor
  · intro hx
    obtain ⟨w, hw, hx⟩ := List.mem_flatMap.1 hx
    obtain ⟨j, hj, rfl⟩ := List.mem_map.1 hx
    have hj := List.mem_range.1 hj
    cases j with
    | zero => exact .inl (ext0 w)
    | succ j => exact .inr ⟨w, hw, j, by omega, rfl⟩
  · rintro (rfl | ⟨w, hw, j, hj, rfl⟩)
    · obtain ⟨w, hw⟩ := List.exists_mem_of_ne_nil _ h
      exact List.mem_flatMap.2 ⟨w, hw, List.mem_map.2 ⟨0, List.mem_range.2 (by omega), ext0 w⟩⟩
    · exact List.mem_flatMap.2 ⟨w, hw, List.mem_map.2 ⟨j + 1, List.mem_range.2 (by omega), rfl⟩⟩
theorem implClosed {ws : List ByteArray} (hv : VW ws) : Ev (fun k => impl_Trie_closed.f k (trieW ws)) (setW (clW ws)) := by
  unfold impl_Trie_closed.f
  refine Ev.bind (implPrefixes hv) (Ev.bind (implWords hv) ?_)
  by_cases h : ws = []
  · subst h
    refine Ev.pos (by simp) (Ev.const (congrArg some ?_))
    exact (setW_of_ss (l := clW []) List.Pairwise.nil).symm
  · refine Ev.neg (fun e => h (List.eq_nil_of_length_eq_zero (by omega))) ?_
    rw [clW_pref h]
    exact Ev.pure _
end Go.Proofs.YtefcbnlljpdjnaaDoor.Q
namespace Go.Proofs.YtefcbnlljpdjnaaDoor.Q
open Go.RowKit Go.Proofs.YtefcbnlljpdjnaaDoorW.PrintWords Go.Proofs.YtefcbnlljpdjnaaDoorW.PrintLast
theorem clW_le {ws : List ByteArray} (h : ∀ w ∈ ws, w.size ≤ 12) (hl : ws.length ≤ 40) : (setW (clW ws)).length ≤ 1000 := by
  by_cases e : ws = []
  · subst e
    rw [setW_of_ss (l := clW []) List.Pairwise.nil]
    exact Nat.zero_le _
  · rw [clW_pref e]
    have := prefW_le ws h
    omega
theorem both_CloseTrie (l : List IN) : ∃ r, Ev (fun k => spec_CloseTrie.f k l) r ∧ Ev (fun k => impl_CloseTrie.f k l) r ∧ r.1.length ≤ 1048576 := by
  unfold spec_CloseTrie.f impl_CloseTrie.f
  rcases trie_cases l with hf | ⟨ws, hv, rfl, ht⟩
  · exact ⟨([], false), Ev.bind (specT l hf) (Ev.neg (by decide) (Ev.pure _)), Ev.bind (implT l hf) (Ev.neg (by decide) (Ev.pure _)), by decide⟩
  · have h12 : ∀ w ∈ ws, w.size ≤ 12 := fun w hw => (hv.ok w hw).1
    have hle := clW_le h12 hv.len
    exact ⟨madeW (setW (clW ws)), Ev.bind (specT _ ht) (Ev.pos rfl (Ev.bind (specWords hv) (Ev.bind (closed_ev ws h12 hv.len) (Ev.bind (spec5 _ (by omega)) (Ev.pure _))))),
      Ev.bind (implT _ ht) (Ev.pos rfl (Ev.bind (implClosed hv) (Ev.bindc (impl5 _ (by omega)) (Ev.pure _)))), madeW_le _⟩
theorem pure_FnExactCloseTrie (l0 : List LN) (hl_l0 : l0.length ≤ maxLen) (hI_l0 : ∀ x ∈ l0, I64 x.f0 ∧ I64 x.f1) : ∃ k, laws_FnExactCloseTrie.f k l0 = some true := by
  refine Ev.ex ?_
  unfold laws_FnExactCloseTrie.f
  by_cases h_l0 : l0.length ≤ 1048576
  case neg => exact Ev.bindc (szTrie_eq l0 (by unfold maxLen at hl_l0; omega)) (by rw [if_neg h_l0]; exact Ev.pos (by decide) (Ev.pure _))
  refine Ev.bindc (szTrie_eq l0 (by unfold maxLen at hl_l0; omega)) ?_
  rw [if_pos h_l0]
  refine Ev.neg (by omega) ?_
  have ht_l0 := toTrie_ev l0 (by omega)
  have hc_l0 : (cv l0).length ≤ 1048576 := by rw [cv_length]; omega
  obtain ⟨r, e1, e2, hr⟩ := both_CloseTrie (cv l0)
  have hq := eqTrie_ev r.1 r.1 hr
  refine (Ev.bind ht_l0 (Ev.bind e1 (Ev.bind ht_l0 (Ev.bind e2 (Ev.bind hq (Ev.pos (by simp) (Ev.succ ?_)))))))
  simp only [laws_FnExactCloseTrie.j0]
  obtain ⟨m, hm⟩ := markTrie_ev (cv l0) hc_l0
  refine Ev.neg (by simp) (Ev.bind ht_l0 (Ev.bind (eqTrie_ev _ _ hc_l0) (Ev.pos (by simp) (Ev.bind hm (Ev.neg (by simp only; omega) (Ev.bind hq (Ev.pos (by simp) (Ev.succ ?_))))))))
  simp only [laws_FnExactCloseTrie.j1]
  obtain ⟨ms, hs1, hs2⟩ := markH_ev r.1 hr
  refine Ev.neg (by simp) (Ev.bind hs1 (Ev.bind hs2 (Ev.neg (by omega) (Ev.pos rfl (Ev.bind ht_l0 (Ev.bind e2 (Ev.bind hq (Ev.pos (by simp) (Ev.succ ?_)))))))))
  simp only [laws_FnExactCloseTrie.j2]
  exact Ev.neg (by simp) (Ev.bind hs2 (Ev.neg (by omega) (Ev.pos rfl (Ev.pure _))))
end Go.Proofs.YtefcbnlljpdjnaaDoor.Q
namespace Go.Proofs.YtefcbnlljpdjnaaDoor.Pure
theorem FnExactCloseTrie (l0 : List Q.LN) (hl_l0 : l0.length ≤ maxLen) (hI_l0 : ∀ x ∈ l0, Q.I64 x.f0 ∧ Q.I64 x.f1) : ∃ k, Q.laws_FnExactCloseTrie.f k l0 = some true := Q.pure_FnExactCloseTrie l0 hl_l0 hI_l0
end Go.Proofs.YtefcbnlljpdjnaaDoor.Pure
namespace Go.Proofs.YtefcbnlljpdjnaaDoor.fnExactCloseTrie
open Go.ChangeShapes Go.WideShapes Go.ChangeAt Go.RowKit
open Go.ChangeMaps (open_string shut_string)
set_option linter.unusedVariables false
theorem own : ownKnob Tryd.prog.godebug = none := by kernel_rfl
theorem laidOut : laidOutB Tryd.prog = true := by kernel_rfl
set_option maxRecDepth 100000 in
theorem lifted (os : Os) (started : os.Started) (H : Type) (enc : TypeId × Value → H) :
    ReturnsInHanded {} Tryd.checked os 10 .any (fun w args => (Rows.fnExactCloseTrieSpec.pre enc Tryd.prog Tryd.f10 Rows.fnExactCloseTrieRow.domain false w args ∧ laidMetH Tryd.prog Rows.fnExactCloseTrieRow.laid w) ∧ sizedMet enc Tryd.prog Tryd.f10 (OpenSpec.ofChange Rows.fnExactCloseTrieSpec) false w args) (Rows.fnExactCloseTrieSpec.post enc Tryd.prog Tryd.f10 false true false false) := by
  refine returnsInHanded_of_change_and (C := Tryd.checked) (X := fun w _ => laidMetH Tryd.prog Rows.fnExactCloseTrieRow.laid w) (fun _ _ _ hh h => h.of_heap hh) own started (by kernel_rfl) Tryd.func10
    (ChangeSpec.witness_shaped (enc := enc) (C := Tryd.checked) (os := os) (X := fun w _ => laidMetH Tryd.prog Rows.fnExactCloseTrieRow.laid w) false (World.laidAll Tryd.prog os Rows.fnExactCloseTrieRow.laid) #[.agg #[.slice none 0 0]] 8 (World.laidAll_os _ _ _)
      (World.shaped_of_ZipB (by kernel_rfl) (by kernel_rfl)) (by kernel_rfl) (by kernel_rfl) (by kernel_rfl)
      (by rw [MakeChecks.laidMetH_plain _ _ _ (by kernel_rfl)]; exact laidMet_laidAll _ (by kernel_rfl) (by kernel_rfl))) ?_
  intro W base args ds gs before hval0 hW hcnd hsz0 hL _
  have hsz : (DataW.weightsEach Tryd.prog (Tryd.f10.params.toList ++ Rows.fnExactCloseTrieSpec.plain.varTypes Tryd.prog) (ds ++ gs)).all (· ≤ reachBytes) = true := hsz0
  have hval : ∀ (j : Nat) t v, Tryd.f10.params[j]? = some t → args[j]? = some v → Value.okWide Tryd.prog W .any base t v := hval0
  have hW' := hW
  obtain ⟨p, q, hA0, hV, rfl, hfz, hnd⟩ := hW
  have hA : DataW.TrodAll enc Tryd.prog W 0 (fun _ => true) true Tryd.f10.params.toList args.toList ds p := hA0
  rw [Tryd.params10] at hA hval hsz
  obtain ⟨v0, vs0, d0, ds0, p0, q0, hargs, rfl, rfl, h0, r0⟩ := trodAll_cons hA
  obtain ⟨rfl, rfl, rfl⟩ := trodAll_nil r0
  obtain rfl : args = #[v0] := by cases args; simp_all
  obtain ⟨rfl, rfl⟩ := trodVars_none hV
  have k0 := h0
  have lt0 : ∀ x ∈ p0, x.block < W.heap.size := by obtain ⟨m, hm⟩ := k0; exact DataW.trod_lt m _ _ _ hm
  obtain ⟨A0, c0, l0, rfl, hC0, hc0, hl0, hI0⟩ := Q.open_trie (hval 0 36 v0 rfl rfl) h0
  clear hA0 hval0 hsz0 hsz
  obtain ⟨k, hk⟩ := Pure.FnExactCloseTrie l0 hl0 hI0
  refine (Q.laws_FnExactCloseTrie.calls k A0 c0 l0 true W hC0 hc0 hk).mono fun e W' ⟨he, bel0⟩ => ?_
  have bel : Below W.heap.size W W' := bel0
  subst he
  exact ⟨_, rfl, _, _, _, [], _, [], hW', trodAll_mk1 (shut_bool Tryd.underlying4 _), (trodAll_cons_mk (Below.trod laidOut (by kernel_rfl) (of_decide_eq_true (by kernel_rfl)) k0 bel lt0) trodAll_mk0), rfl, bel.frame _, fun h => by cases h⟩
theorem over : Rows.fnExactCloseTrieRow.holds Tryd.pinned (OpenSpec.ofChange Rows.fnExactCloseTrieSpec) :=
  OpenClaim.holds_of_wide 10 Tryd.f10 rfl rfl rfl rfl rfl rfl rfl ⟨rfl, rfl, rfl, rfl, rfl⟩ rfl rfl rfl rfl rfl (by kernel_rfl) Tryd.func10 (by kernel_rfl)
    (of_decide_eq_true (by kernel_rfl)) (by unfold Func.isWrapper; first | (rw [if_pos (by decide +kernel)]; kernel_rfl) | (rw [if_neg (by decide +kernel)]; exact ⟨rfl, rfl⟩))
    (fun os started H enc _ => lifted os started H enc)
set_option maxRecDepth 100000 in
theorem proved : Rows.FnExactCloseTrieCardSaid :=
  Claim7.holds_tied_plain_at .later [] [.data, .pinned] true (true, "bdcb3db80251c561bbc8334c7731308294adf86d7be7bd4d1a885b00a83deeb2") false over (fun _ h => by cases h) (by kernel_rfl) (fun _ h => by cases h) fnExactCloseTrie_row_tie rfl ⟨rfl, rfl⟩ (by kernel_rfl) rfl
    (fun f fn hf hfn => by
      obtain rfl : f = 10 := Option.some.inj ((show Tryd.prog.funcNamed Tryd.f10.name = some 10 by kernel_rfl).symm.trans hf) |>.symm
      obtain rfl : fn = Tryd.f10 := (Option.some.inj (Tryd.func10.symm.trans hfn)).symm
      exact ⟨by kernel_rfl, fun j t ht => by
        rw [Tryd.params10] at ht
        have hm : t ∈ [36] := by simpa using Array.mem_of_getElem? ht
        have hall : ([36].all fun u => !Tryd.prog.wantsStandIn u) = true := by kernel_rfl
        exact (show Tryd.prog.wantsStandIn t = false by simpa using List.all_eq_true.1 hall t hm)⟩)
    (by kernel_rfl)
end Go.Proofs.YtefcbnlljpdjnaaDoor.fnExactCloseTrie
namespace Go.Proofs.YtefcbnlljpdjnaaDoor
theorem fnExactCloseTrie_holds : Rows.FnExactCloseTrieCardSaid := fnExactCloseTrie.proved
end Go.Proofs.YtefcbnlljpdjnaaDoor
