/- Texts of one proof put together: walks of the program's functions, and plain laws on what they compute. -/
import Derived.Test.YtefcbnlljpdjnaaDoorC0
import Derived.Test.YtefcbnlljpdjnaaDoorC1
import Derived.Test.YtefcbnlljpdjnaaDoorC2
import Derived.Test.YtefcbnlljpdjnaaDoorC3
import Derived.Test.YtefcbnlljpdjnaaDoorC4
import Derived.Test.YtefcbnlljpdjnaaDoorProg
import Derived.Below
import Derived.Deep.Draws
import Derived.Deep.AppendLies
import Derived.Maps.AppendAt
import Derived.OwnWalk
import Derived.Laws.BytesArg
import Derived.Laws.MakeOwn
import Derived.Laws.OwnMore
import Derived.Deep.OwnRows
import Derived.Tactics
import Derived.Lib.ConvBytes
import Derived.Laws.Slices
import Derived.WalkKit
import Derived.KernelRfl
import Derived.RowKit3
import Derived.Deep.LoopGhost
import Derived.Deep.QuietTactic
import Derived.BigQuiet
import Derived.WideLaws
import Derived.Deep.DeepCutAuto
import Derived.Deep.CutBlock
import Derived.Deep.RegionHeld3
import Derived.Laws.Rows
import Derived.Lib.AppendStr
import Derived.ArgAppend
import Derived.Laws.IdiomCopy
import Derived.OrdersHeld
import Derived.Laws.BitsLemmas
import Derived.RowKit
import Derived.Shelf.Sort.Plain
import Derived.Shelf.Slices.CompactS
import Derived.Shelf.Slices.In.SortNone
import Derived.RangeFuncBox
import Derived.RangeFuncLeaves
import Derived.Shelf.Abstract
import Derived.OwnWalkIn
import Derived.TacticsInMore
import Derived.LoopNIn
import Derived.LoopIn
import Derived.Lib.OwnBridge
import Derived.Sort.OwnSorted
import Derived.Sort.Grow
import Derived.Lib.SlicesCompact
import Derived.Shelf.Strings.OnBuilder
import Derived.Ground.NamesProg
import Derived.Ground.SlgfProg
import Derived.Maps.Own
import Derived.StringKeys
import Derived.Maps.OwnOps
import Derived.Maps.OwnSet
import Derived.Maps.Views
import Derived.Laws.AppendOwn
import Derived.Deep.DrawnRows
import Derived.Sort.Walk0
import Derived.Lib.Strings
import Derived.Shelf.SlicesE.DeleteFunc
import Derived.Lib.SliceRun
import Derived.Shelf.Strings.SlTrimAscii
import Derived.Deep.Slices
import Derived.Deep.Fields
import Derived.ChangeSame
import Derived.ChangeArms
import Derived.WideShapes
set_option linter.unusedVariables false
set_option linter.unusedSimpArgs false
namespace Go.Proofs.YtefcbnlljpdjnaaDoor.Q
open Go.RowKit Go.Proofs.YtefcbnlljpdjnaaDoorW.PrintWords Go.Proofs.YtefcbnlljpdjnaaDoorW.PrintLast Go.Proofs.YtefcbnlljpdjnaaDoorW.PrintMore
attribute [local go_sem] run_field_25 run_field_26 run_field_35 run_field_36 isSome_setCell max2_int min2_int max_two min_two max_three min_three max_four min_four   -- for this text's walks alone
set_option linter.unusedVariables false
set_option linter.unusedSimpArgs false
mutual
def laws_FnExactJoinTries.j0 : Nat → Bool → Bool → Bool → List (S81) → List (S81) → List (S76) → List (S76) → List (S76) → List (S76) → Option (Bool)
  | 0, _, _, _, _, _, _, _, _, _ => none
  | k + 1, x7, x11, x53, x650000, x651000, x664000, x668000, x672000, x677000 => if x53 = true then (some false) else ((laws_toTrie.f k x650000).bind fun t678 => ((laws_eqTrie.f k x668000 t678).bind fun t681 => (if t681 = true then ((laws_toTrie.f k x651000).bind fun t682 => ((laws_eqTrie.f k x672000 t682).bind fun t685 => (if t685 = true then ((laws_markTrie.f k x668000 1).bind fun bt686 => ((laws_markTrie.f k x672000 bt686.1).bind fun bt688 => (if bt688.1 < 0 then (laws_FnExactJoinTries.j1 k x7 true x650000 x651000 x664000 x677000) else ((laws_eqTrie.f k x677000 x664000).bind fun t690 => (if t690 = true then (laws_FnExactJoinTries.j1 k x7 (x11 != x7) x650000 x651000 x664000 x677000) else (laws_FnExactJoinTries.j1 k x7 true x650000 x651000 x664000 x677000)))))) else (some false)))) else (some false))))
def laws_FnExactJoinTries.j1 : Nat → Bool → Bool → List (S81) → List (S81) → List (S76) → List (S76) → Option (Bool)
  | 0, _, _, _, _, _, _ => none
  | k + 1, x7, x82, x650000, x651000, x664000, x677000 => if x82 = true then (some false) else ((laws_markTrie.f k x677000 1).bind fun bt691 => ((laws_heldTrie.f k bt691.2 1).bind fun t693 => (if t693 < 0 then (some false) else (if t693 = bt691.1 then ((laws_toTrie.f k x650000).bind fun t694 => ((laws_toTrie.f k x651000).bind fun t697 => ((impl_JoinTries.f k t694 t697).bind fun bt700 => ((laws_eqTrie.f k bt700.1 x664000).bind fun t705 => (if t705 = true then (laws_FnExactJoinTries.j2 k bt691.1 (bt700.2 != x7) bt691.2) else (laws_FnExactJoinTries.j2 k bt691.1 true bt691.2)))))) else (some false)))))
def laws_FnExactJoinTries.j2 : Nat → Int → Bool → List (S76) → Option (Bool)
  | 0, _, _, _ => none
  | k + 1, x13, x110, x677000 => if x110 = true then (some false) else ((laws_heldTrie.f k x677000 1).bind fun t706 => (if t706 < 0 then (some false) else (if t706 = x13 then (some true) else (some false))))
end
def laws_FnExactJoinTries.f (k : Nat) (l0_0 : List (S81)) (l1_0 : List (S81)) : Option (Bool) := (laws_szTrie.f l0_0 1048576).bind fun t651 => (if t651 < 0 then (some true) else ((laws_szTrie.f l1_0 t651).bind fun t652 => (if t652 < 0 then (some true) else ((laws_toTrie.f k l0_0).bind fun t653 => ((laws_toTrie.f k l1_0).bind fun t656 => ((spec_JoinTries.f k t653 t656).bind fun bt659 => ((laws_toTrie.f k l0_0).bind fun t664 => ((laws_toTrie.f k l1_0).bind fun t668 => ((impl_JoinTries.f k t664 t668).bind fun bt672 => ((laws_eqTrie.f k bt672.1 bt659.1).bind fun t677 => (if t677 = true then (laws_FnExactJoinTries.j0 k bt659.2 bt672.2 (bt672.2 != bt659.2) l0_0 l1_0 bt659.1 t664 t668 bt672.1) else (laws_FnExactJoinTries.j0 k bt659.2 bt672.2 true l0_0 l1_0 bt659.1 t664 t668 bt672.1))))))))))))
def laws_FnExactJoinTries.T8 : Bool × List (List Nat × List Nat) := (true, [([], []), ([0], [0]), ([], []), ([2, 1], [2]), ([1, 3, 3], [1, 3]), ([4], [4]), ([5], [5]), ([5], [5]), ([], []), ([8, 6, 4, 0, 1, 2, 3, 4, 5, 6, 8], [6, 8]), ([7, 9, 0, 1, 2, 3, 4, 5, 6, 7, 8, 9], [7])])
def laws_FnExactJoinTries.B8 : List Nat := [0, 1, 0, 7, 15, 31, 63, 63, 0, 383, 1023]
theorem laws_FnExactJoinTries.tab8 : rtab .any (opsOf Tryd.f8 8) = laws_FnExactJoinTries.T8 := by kernel_rfl
theorem laws_FnExactJoinTries.bits8 : waitsOk laws_FnExactJoinTries.T8.2 laws_FnExactJoinTries.B8 = true := by kernel_rfl
def laws_FnExactJoinTries.T31 : Bool × List (List Nat × List Nat) := (true, [([], []), ([0], [0]), ([], []), ([2, 1], [2]), ([1, 3, 3], [1, 3]), ([4], [4]), ([5], [5]), ([5], [5]), ([], []), ([8, 6, 4, 0, 1, 2, 3, 4, 5, 6, 8], [6, 8]), ([7, 9, 0, 1, 2, 3, 4, 5, 6, 7, 8, 9], [7])])
def laws_FnExactJoinTries.B31 : List Nat := [0, 1, 0, 7, 15, 31, 63, 63, 0, 383, 1023]
theorem laws_FnExactJoinTries.tab31 : rtab .any (opsOf Tryd.f8 31) = laws_FnExactJoinTries.T31 := by kernel_rfl
theorem laws_FnExactJoinTries.bits31 : waitsOk laws_FnExactJoinTries.T31.2 laws_FnExactJoinTries.B31 = true := by kernel_rfl
set_option maxHeartbeats 8000000 in
set_option maxRecDepth 100000 in
theorem laws_FnExactJoinTries.calls (k : Nat) (A0_0 : Option Addr) (c0_0 : Nat) (l0_0 : List (S81)) (A1_0 : Option Addr) (c1_0 : Nat) (l1_0 : List (S81)) (r : Bool) (w : World) (hr0_0 : Kd.C k81 w A0_0 l0_0.length l0_0) (hc0_0 : l0_0.length ≤ c0_0) (hr1_0 : Kd.C k81 w A1_0 l1_0.length l1_0) (hc1_0 : l1_0.length ≤ c1_0) (h : laws_FnExactJoinTries.f k l0_0 l1_0 = some true) :
  Calls Tryd.prog 8 #[.agg #[.slice A0_0 l0_0.length c0_0], .agg #[.slice A1_0 l1_0.length c1_0]] w fun e w' => e = .returned (.bool true) ∧ Below w.heap.size w w' := by
 have hu36 := Tryd.underlying36
 have hu26 := Tryd.underlying26
 have HR0_0 := Aside0.mk hr0_0
 have HC0_0 := Aside0.mk hc0_0
 clear hr0_0 hc0_0
 have HR1_0 := Aside0.mk hr1_0
 have HC1_0 := Aside0.mk hc1_0
 clear hr1_0 hc1_0
 have HB := Aside0.mk (Below.refl w.heap.size w)
 have H : ((laws_szTrie.f l0_0 1048576).bind fun t651 => (if t651 < 0 then (some true) else ((laws_szTrie.f l1_0 t651).bind fun t652 => (if t652 < 0 then (some true) else ((laws_toTrie.f k l0_0).bind fun t653 => ((laws_toTrie.f k l1_0).bind fun t656 => ((spec_JoinTries.f k t653 t656).bind fun bt659 => ((laws_toTrie.f k l0_0).bind fun t664 => ((laws_toTrie.f k l1_0).bind fun t668 => ((impl_JoinTries.f k t664 t668).bind fun bt672 => ((laws_eqTrie.f k bt672.1 bt659.1).bind fun t677 => (if t677 = true then (laws_FnExactJoinTries.j0 k bt659.2 bt672.2 (bt672.2 != bt659.2) l0_0 l1_0 bt659.1 t664 t668 bt672.1) else (laws_FnExactJoinTries.j0 k bt659.2 bt672.2 true l0_0 l1_0 bt659.1 t664 t668 bt672.1))))))))))))) = some true := h
 clear h
 replace H := Option.bind_eq_some_iff.mp H
 obtain ⟨t651, A30, H⟩ := H
 replace H : (if t651 < 0 then (some true) else ((laws_szTrie.f l1_0 t651).bind fun t652 => (if t652 < 0 then (some true) else ((laws_toTrie.f k l0_0).bind fun t653 => ((laws_toTrie.f k l1_0).bind fun t656 => ((spec_JoinTries.f k t653 t656).bind fun bt659 => ((laws_toTrie.f k l0_0).bind fun t664 => ((laws_toTrie.f k l1_0).bind fun t668 => ((impl_JoinTries.f k t664 t668).bind fun bt672 => ((laws_eqTrie.f k bt672.1 bt659.1).bind fun t677 => (if t677 = true then (laws_FnExactJoinTries.j0 k bt659.2 bt672.2 (bt672.2 != bt659.2) l0_0 l1_0 bt659.1 t664 t668 bt672.1) else (laws_FnExactJoinTries.j0 k bt659.2 bt672.2 true l0_0 l1_0 bt659.1 t664 t668 bt672.1)))))))))))) = some true := H
 have A3 := Aside0.mk A30
 clear A30
 by_cases c4 : t651 < 0
 ·rw [if_pos c4] at H
  have c4b0 : decide (t651 < 0) = true := decide_eq_true c4
  clear c4
  (first | (obtain rfl := Option.some.inj H) | (have hH_ := Option.some.inj H; try simp only [hH_]))
  go_enter Tryd.func8, Tryd.ntmps8
  go_wp2_with (first | ((with_reducible refine gate_dst (N := 2) rfl ?_); refine box_event ?hg (N := 2) ?hd (cs := #[.slice A0_0 l0_0.length c0_0]) (t := 36) ?hr ?_; (case hd => rfl); (case hg => rfl); (case hr => first | (go_simp; done) | (go_simp; rfl)); intro gb649 hg w5 hbox hb; have n0_ := Aside0.mk (below_step (by repeat (first | (with_reducible first | exact HB.out | apply below_alloc | apply pw_below_drewN | apply below_drew1) | exact HB.out)) hb); have n1_ := Aside0.mk (hbox); have n2_ := Aside0.mk ((by rw [hg]; exact (below_size (by repeat (first | (with_reducible first | exact HB.out | apply below_alloc | apply pw_below_drewN | apply below_drew1) | exact HB.out))) : w.heap.size ≤ gb649)); have n3_ := Aside0.mk ((by rw [hg]; exact (below_size (by repeat (first | (with_reducible first | exact HB.out | apply below_alloc | apply pw_below_drewN | apply below_drew1) | exact HB.out))) : w.heap.size ≤ gb649)); clear HB; have HB := n0_; have BK649 := n1_; have GW649 := n2_; have GE649 := n3_; clear n0_ n1_ n2_ n3_; clear hb hbox hg) | ((with_reducible refine gate_dst (N := 3) rfl ?_); refine box_event ?hg (N := 3) ?hd (cs := #[.slice A1_0 l1_0.length c1_0]) (t := 36) ?hr ?_; (case hd => rfl); (case hg => rfl); (case hr => first | (go_simp; done) | (go_simp; rfl)); intro gb650 hg w6 hbox hb; have n0_ := Aside0.mk (blk_below (g := gb649) (o := .cells #[.slice A0_0 l0_0.length c0_0] 36 (0, 0)) (by (with_reducible repeat (first | refine blk_drewN ?_ _ | refine blk_drew ?_ | refine blk_alloc ?_ _)); exact BK649.out) hb); have n1_ := Aside0.mk (below_step (by repeat (first | (with_reducible first | exact HB.out | apply below_alloc | apply pw_below_drewN | apply below_drew1 | refine below_set ?_ GE649.out) | exact HB.out)) hb); have n2_ := Aside0.mk (hbox); have n3_ := Aside0.mk ((by rw [hg]; exact (below_size (by repeat (first | (with_reducible first | exact HB.out | apply below_alloc | apply pw_below_drewN | apply below_drew1 | refine below_set ?_ GE649.out) | exact HB.out))) : w.heap.size ≤ gb650)); have n4_ := Aside0.mk ((by rw [hg]; exact (below_size (by repeat (first | (with_reducible first | exact HB.out | apply below_alloc | apply pw_below_drewN | apply below_drew1 | refine below_set ?_ GE649.out) | exact HB.out))) : w.heap.size ≤ gb650)); have n5_ := Aside0.mk ((by rw [hg]; exact Nat.ne_of_lt (blk_lt (g := gb649) (o := .cells #[.slice A0_0 l0_0.length c0_0] 36 (0, 0)) (by (with_reducible repeat (first | refine blk_drewN ?_ _ | refine blk_drew ?_ | refine blk_alloc ?_ _)); exact BK649.out)) : gb649 ≠ gb650)); have n6_ := Aside0.mk ((by rw [hg]; exact Nat.ne_of_gt (blk_lt (g := gb649) (o := .cells #[.slice A0_0 l0_0.length c0_0] 36 (0, 0)) (by (with_reducible repeat (first | refine blk_drewN ?_ _ | refine blk_drew ?_ | refine blk_alloc ?_ _)); exact BK649.out)) : gb650 ≠ gb649)); clear BK649; clear HB; have BK649 := n0_; have HB := n1_; have BK650 := n2_; have GW650 := n3_; have GE650 := n4_; have NB649_650 := n5_; have NB650_649 := n6_; clear n0_ n1_ n2_ n3_ n4_ n5_ n6_; clear hb hbox hg; have hnb7 := NB649_650.out; have hnc7 := NB650_649.out; have hcz8_0 : w6.cell? ⟨gb649, 0, none⟩ = some (.slice A0_0 l0_0.length c0_0) := (blk_cell BK649.out 0).trans rfl; have hfz8_0 := blk_frozen BK649.out 0) | ((with_reducible refine gate_callee (f := 21) rfl ?_); refine goesL_ (some 19) rfl rfl Tryd.func21 (by kernel_rfl) rfl #[.agg #[.slice A0_0 l0_0.length c0_0], .int .i64 1048576] rfl (by (try simp only [List.map_toArray, List.map_cons, List.map_nil]); first | done | rfl | (simp only [List.length_drop, List.length_take]; rfl)) ?_; (with_reducible refine (laws_szTrie.calls _ _ l0_0 1048576 t651 _ ?side1 ?side2 A3.out).mono ?_); (case side1 => repeat (first | exact (Kd.C_below HR0_0.out HB.out) | (with_reducible refine Kd.C_alloc ?_ _) | (with_reducible refine Kd.C_drewN ?_ _) | (with_reducible refine Kd.C_drew ?_))); (case side2 => exact HC0_0.out); rintro e w9 ⟨rfl, hb⟩; refine ⟨_, rfl, ?_⟩; have n0_ := Aside0.mk (blk_below (g := gb649) (o := .cells #[.slice A0_0 l0_0.length c0_0] 36 (0, 0)) (by (with_reducible repeat (first | refine blk_drewN ?_ _ | refine blk_drew ?_ | refine blk_alloc ?_ _)); exact BK649.out) hb); have n1_ := Aside0.mk (blk_below (g := gb650) (o := .cells #[.slice A1_0 l1_0.length c1_0] 36 (0, 0)) (by (with_reducible repeat (first | refine blk_drewN ?_ _ | refine blk_drew ?_ | refine blk_alloc ?_ _)); exact BK650.out) hb); have n2_ := Aside0.mk (below_step (by repeat (first | (with_reducible first | exact HB.out | apply below_alloc | apply pw_below_drewN | apply below_drew1 | refine below_set ?_ GE649.out | refine below_set ?_ GE650.out) | exact HB.out)) hb); clear BK649; clear BK650; clear HB; have BK649 := n0_; have BK650 := n1_; have HB := n2_; clear n0_ n1_ n2_; (try clear hb); (try clear hb2); (try clear hk); (try clear hi)))
  go_ret
  exact ⟨by first | rfl | (simp [errW_none, errW_some] <;> rfl) | (simp [*, errW_none, errW_some] <;> rfl), by repeat (first | (with_reducible first | exact HB.out | apply below_alloc | apply pw_below_drewN | apply below_drew1 | refine below_set ?_ GE649.out | refine below_set ?_ GE650.out) | exact HB.out)⟩
 ·rw [if_neg c4] at H
  have c4b0 : decide (t651 < 0) = false := decide_eq_false c4
  clear c4
  replace H := Option.bind_eq_some_iff.mp H
  obtain ⟨t652, A100, H⟩ := H
  replace H : (if t652 < 0 then (some true) else ((laws_toTrie.f k l0_0).bind fun t653 => ((laws_toTrie.f k l1_0).bind fun t656 => ((spec_JoinTries.f k t653 t656).bind fun bt659 => ((laws_toTrie.f k l0_0).bind fun t664 => ((laws_toTrie.f k l1_0).bind fun t668 => ((impl_JoinTries.f k t664 t668).bind fun bt672 => ((laws_eqTrie.f k bt672.1 bt659.1).bind fun t677 => (if t677 = true then (laws_FnExactJoinTries.j0 k bt659.2 bt672.2 (bt672.2 != bt659.2) l0_0 l1_0 bt659.1 t664 t668 bt672.1) else (laws_FnExactJoinTries.j0 k bt659.2 bt672.2 true l0_0 l1_0 bt659.1 t664 t668 bt672.1)))))))))) = some true := H
  have A10 := Aside0.mk A100
  clear A100
  by_cases c11 : t652 < 0
  ·rw [if_pos c11] at H
   have c11b0 : decide (t652 < 0) = true := decide_eq_true c11
   clear c11
   (first | (obtain rfl := Option.some.inj H) | (have hH_ := Option.some.inj H; try simp only [hH_]))
   go_enter Tryd.func8, Tryd.ntmps8
   go_wp2_with (first | ((with_reducible refine gate_dst (N := 2) rfl ?_); refine box_event ?hg (N := 2) ?hd (cs := #[.slice A0_0 l0_0.length c0_0]) (t := 36) ?hr ?_; (case hd => rfl); (case hg => rfl); (case hr => first | (go_simp; done) | (go_simp; rfl)); intro gb649 hg w12 hbox hb; have n0_ := Aside0.mk (below_step (by repeat (first | (with_reducible first | exact HB.out | apply below_alloc | apply pw_below_drewN | apply below_drew1) | exact HB.out)) hb); have n1_ := Aside0.mk (hbox); have n2_ := Aside0.mk ((by rw [hg]; exact (below_size (by repeat (first | (with_reducible first | exact HB.out | apply below_alloc | apply pw_below_drewN | apply below_drew1) | exact HB.out))) : w.heap.size ≤ gb649)); have n3_ := Aside0.mk ((by rw [hg]; exact (below_size (by repeat (first | (with_reducible first | exact HB.out | apply below_alloc | apply pw_below_drewN | apply below_drew1) | exact HB.out))) : w.heap.size ≤ gb649)); clear HB; have HB := n0_; have BK649 := n1_; have GW649 := n2_; have GE649 := n3_; clear n0_ n1_ n2_ n3_; clear hb hbox hg) | ((with_reducible refine gate_dst (N := 3) rfl ?_); refine box_event ?hg (N := 3) ?hd (cs := #[.slice A1_0 l1_0.length c1_0]) (t := 36) ?hr ?_; (case hd => rfl); (case hg => rfl); (case hr => first | (go_simp; done) | (go_simp; rfl)); intro gb650 hg w13 hbox hb; have n0_ := Aside0.mk (blk_below (g := gb649) (o := .cells #[.slice A0_0 l0_0.length c0_0] 36 (0, 0)) (by (with_reducible repeat (first | refine blk_drewN ?_ _ | refine blk_drew ?_ | refine blk_alloc ?_ _)); exact BK649.out) hb); have n1_ := Aside0.mk (below_step (by repeat (first | (with_reducible first | exact HB.out | apply below_alloc | apply pw_below_drewN | apply below_drew1 | refine below_set ?_ GE649.out) | exact HB.out)) hb); have n2_ := Aside0.mk (hbox); have n3_ := Aside0.mk ((by rw [hg]; exact (below_size (by repeat (first | (with_reducible first | exact HB.out | apply below_alloc | apply pw_below_drewN | apply below_drew1 | refine below_set ?_ GE649.out) | exact HB.out))) : w.heap.size ≤ gb650)); have n4_ := Aside0.mk ((by rw [hg]; exact (below_size (by repeat (first | (with_reducible first | exact HB.out | apply below_alloc | apply pw_below_drewN | apply below_drew1 | refine below_set ?_ GE649.out) | exact HB.out))) : w.heap.size ≤ gb650)); have n5_ := Aside0.mk ((by rw [hg]; exact Nat.ne_of_lt (blk_lt (g := gb649) (o := .cells #[.slice A0_0 l0_0.length c0_0] 36 (0, 0)) (by (with_reducible repeat (first | refine blk_drewN ?_ _ | refine blk_drew ?_ | refine blk_alloc ?_ _)); exact BK649.out)) : gb649 ≠ gb650)); have n6_ := Aside0.mk ((by rw [hg]; exact Nat.ne_of_gt (blk_lt (g := gb649) (o := .cells #[.slice A0_0 l0_0.length c0_0] 36 (0, 0)) (by (with_reducible repeat (first | refine blk_drewN ?_ _ | refine blk_drew ?_ | refine blk_alloc ?_ _)); exact BK649.out)) : gb650 ≠ gb649)); clear BK649; clear HB; have BK649 := n0_; have HB := n1_; have BK650 := n2_; have GW650 := n3_; have GE650 := n4_; have NB649_650 := n5_; have NB650_649 := n6_; clear n0_ n1_ n2_ n3_ n4_ n5_ n6_; clear hb hbox hg; have hnb14 := NB649_650.out; have hnc14 := NB650_649.out; have hcz15_0 : w13.cell? ⟨gb649, 0, none⟩ = some (.slice A0_0 l0_0.length c0_0) := (blk_cell BK649.out 0).trans rfl; have hfz15_0 := blk_frozen BK649.out 0) | ((with_reducible refine gate_callee (f := 21) rfl ?_); refine goesL_ (some 19) rfl rfl Tryd.func21 (by kernel_rfl) rfl #[.agg #[.slice A0_0 l0_0.length c0_0], .int .i64 1048576] rfl (by (try simp only [List.map_toArray, List.map_cons, List.map_nil]); first | done | rfl | (simp only [List.length_drop, List.length_take]; rfl)) ?_; (with_reducible refine (laws_szTrie.calls _ _ l0_0 1048576 t651 _ ?side1 ?side2 A3.out).mono ?_); (case side1 => repeat (first | exact (Kd.C_below HR0_0.out HB.out) | (with_reducible refine Kd.C_alloc ?_ _) | (with_reducible refine Kd.C_drewN ?_ _) | (with_reducible refine Kd.C_drew ?_))); (case side2 => exact HC0_0.out); rintro e w16 ⟨rfl, hb⟩; refine ⟨_, rfl, ?_⟩; have n0_ := Aside0.mk (blk_below (g := gb649) (o := .cells #[.slice A0_0 l0_0.length c0_0] 36 (0, 0)) (by (with_reducible repeat (first | refine blk_drewN ?_ _ | refine blk_drew ?_ | refine blk_alloc ?_ _)); exact BK649.out) hb); have n1_ := Aside0.mk (blk_below (g := gb650) (o := .cells #[.slice A1_0 l1_0.length c1_0] 36 (0, 0)) (by (with_reducible repeat (first | refine blk_drewN ?_ _ | refine blk_drew ?_ | refine blk_alloc ?_ _)); exact BK650.out) hb); have n2_ := Aside0.mk (below_step (by repeat (first | (with_reducible first | exact HB.out | apply below_alloc | apply pw_below_drewN | apply below_drew1 | refine below_set ?_ GE649.out | refine below_set ?_ GE650.out) | exact HB.out)) hb); clear BK649; clear BK650; clear HB; have BK649 := n0_; have BK650 := n1_; have HB := n2_; clear n0_ n1_ n2_; (try clear hb); (try clear hb2); (try clear hk); (try clear hi); have hcz17_0 : w16.cell? ⟨gb650, 0, none⟩ = some (.slice A1_0 l1_0.length c1_0) := (blk_cell BK650.out 0).trans rfl; have hfz17_0 := blk_frozen BK650.out 0) | ((with_reducible refine gate_callee (f := 21) rfl ?_); refine goesL_ (some 24) rfl rfl Tryd.func21 (by kernel_rfl) rfl #[.agg #[.slice A1_0 l1_0.length c1_0], .int .i64 t651] rfl (by (try simp only [List.map_toArray, List.map_cons, List.map_nil]); first | done | rfl | (simp only [List.length_drop, List.length_take]; rfl)) ?_; (with_reducible refine (laws_szTrie.calls _ _ l1_0 t651 t652 _ ?side1 ?side2 A10.out).mono ?_); (case side1 => repeat (first | exact (Kd.C_below HR1_0.out HB.out) | (with_reducible refine Kd.C_alloc ?_ _) | (with_reducible refine Kd.C_drewN ?_ _) | (with_reducible refine Kd.C_drew ?_))); (case side2 => exact HC1_0.out); rintro e w18 ⟨rfl, hb⟩; refine ⟨_, rfl, ?_⟩; have n0_ := Aside0.mk (blk_below (g := gb649) (o := .cells #[.slice A0_0 l0_0.length c0_0] 36 (0, 0)) (by (with_reducible repeat (first | refine blk_drewN ?_ _ | refine blk_drew ?_ | refine blk_alloc ?_ _)); exact BK649.out) hb); have n1_ := Aside0.mk (blk_below (g := gb650) (o := .cells #[.slice A1_0 l1_0.length c1_0] 36 (0, 0)) (by (with_reducible repeat (first | refine blk_drewN ?_ _ | refine blk_drew ?_ | refine blk_alloc ?_ _)); exact BK650.out) hb); have n2_ := Aside0.mk (below_step (by repeat (first | (with_reducible first | exact HB.out | apply below_alloc | apply pw_below_drewN | apply below_drew1 | refine below_set ?_ GE649.out | refine below_set ?_ GE650.out) | exact HB.out)) hb); clear BK649; clear BK650; clear HB; have BK649 := n0_; have BK650 := n1_; have HB := n2_; clear n0_ n1_ n2_; (try clear hb); (try clear hb2); (try clear hk); (try clear hi)))
   go_ret
   exact ⟨by first | rfl | (simp [errW_none, errW_some] <;> rfl) | (simp [*, errW_none, errW_some] <;> rfl), by repeat (first | (with_reducible first | exact HB.out | apply below_alloc | apply pw_below_drewN | apply below_drew1 | refine below_set ?_ GE649.out | refine below_set ?_ GE650.out) | exact HB.out)⟩
  ·rw [if_neg c11] at H
   have c11b0 : decide (t652 < 0) = false := decide_eq_false c11
   clear c11
   replace H := Option.bind_eq_some_iff.mp H
   obtain ⟨t653, A190, H⟩ := H
   replace H : ((laws_toTrie.f k l1_0).bind fun t656 => ((spec_JoinTries.f k t653 t656).bind fun bt659 => ((laws_toTrie.f k l0_0).bind fun t664 => ((laws_toTrie.f k l1_0).bind fun t668 => ((impl_JoinTries.f k t664 t668).bind fun bt672 => ((laws_eqTrie.f k bt672.1 bt659.1).bind fun t677 => (if t677 = true then (laws_FnExactJoinTries.j0 k bt659.2 bt672.2 (bt672.2 != bt659.2) l0_0 l1_0 bt659.1 t664 t668 bt672.1) else (laws_FnExactJoinTries.j0 k bt659.2 bt672.2 true l0_0 l1_0 bt659.1 t664 t668 bt672.1)))))))) = some true := H
   have A19 := Aside0.mk A190
   clear A190
   replace H := Option.bind_eq_some_iff.mp H
   obtain ⟨t656, A200, H⟩ := H
   replace H : ((spec_JoinTries.f k t653 t656).bind fun bt659 => ((laws_toTrie.f k l0_0).bind fun t664 => ((laws_toTrie.f k l1_0).bind fun t668 => ((impl_JoinTries.f k t664 t668).bind fun bt672 => ((laws_eqTrie.f k bt672.1 bt659.1).bind fun t677 => (if t677 = true then (laws_FnExactJoinTries.j0 k bt659.2 bt672.2 (bt672.2 != bt659.2) l0_0 l1_0 bt659.1 t664 t668 bt672.1) else (laws_FnExactJoinTries.j0 k bt659.2 bt672.2 true l0_0 l1_0 bt659.1 t664 t668 bt672.1))))))) = some true := H
   have A20 := Aside0.mk A200
   clear A200
   replace H := Option.bind_eq_some_iff.mp H
   obtain ⟨⟨t659, t662⟩, A210, H⟩ := H
   replace H : ((laws_toTrie.f k l0_0).bind fun t664 => ((laws_toTrie.f k l1_0).bind fun t668 => ((impl_JoinTries.f k t664 t668).bind fun bt672 => ((laws_eqTrie.f k bt672.1 t659).bind fun t677 => (if t677 = true then (laws_FnExactJoinTries.j0 k t662 bt672.2 (bt672.2 != t662) l0_0 l1_0 t659 t664 t668 bt672.1) else (laws_FnExactJoinTries.j0 k t662 bt672.2 true l0_0 l1_0 t659 t664 t668 bt672.1)))))) = some true := H
   have A21 := Aside0.mk A210
   clear A210
   replace H := Option.bind_eq_some_iff.mp H
   obtain ⟨t664, A220, H⟩ := H
   replace H : ((laws_toTrie.f k l1_0).bind fun t668 => ((impl_JoinTries.f k t664 t668).bind fun bt672 => ((laws_eqTrie.f k bt672.1 t659).bind fun t677 => (if t677 = true then (laws_FnExactJoinTries.j0 k t662 bt672.2 (bt672.2 != t662) l0_0 l1_0 t659 t664 t668 bt672.1) else (laws_FnExactJoinTries.j0 k t662 bt672.2 true l0_0 l1_0 t659 t664 t668 bt672.1))))) = some true := H
   have A22 := Aside0.mk A220
   clear A220
   replace H := Option.bind_eq_some_iff.mp H
   obtain ⟨t668, A230, H⟩ := H
   replace H : ((impl_JoinTries.f k t664 t668).bind fun bt672 => ((laws_eqTrie.f k bt672.1 t659).bind fun t677 => (if t677 = true then (laws_FnExactJoinTries.j0 k t662 bt672.2 (bt672.2 != t662) l0_0 l1_0 t659 t664 t668 bt672.1) else (laws_FnExactJoinTries.j0 k t662 bt672.2 true l0_0 l1_0 t659 t664 t668 bt672.1)))) = some true := H
   have A23 := Aside0.mk A230
   clear A230
   replace H := Option.bind_eq_some_iff.mp H
   obtain ⟨⟨t672, t675⟩, A240, H⟩ := H
   replace H : ((laws_eqTrie.f k t672 t659).bind fun t677 => (if t677 = true then (laws_FnExactJoinTries.j0 k t662 t675 (t675 != t662) l0_0 l1_0 t659 t664 t668 t672) else (laws_FnExactJoinTries.j0 k t662 t675 true l0_0 l1_0 t659 t664 t668 t672))) = some true := H
   have A24 := Aside0.mk A240
   clear A240
   have HC25 := Aside0.mk H
   clear H
   go_enter Tryd.func8, Tryd.ntmps8
   try go_wp2_with (first | ((with_reducible refine gate_dst (N := 2) rfl ?_); refine box_event ?hg (N := 2) ?hd (cs := #[.slice A0_0 l0_0.length c0_0]) (t := 36) ?hr ?_; (case hd => rfl); (case hg => rfl); (case hr => first | (go_simp; done) | (go_simp; rfl)); intro gb649 hg w26 hbox hb; have n0_ := Aside0.mk (below_step (by repeat (first | (with_reducible first | exact HB.out | apply below_alloc | apply pw_below_drewN | apply below_drew1) | exact HB.out)) hb); have n1_ := Aside0.mk (hbox); have n2_ := Aside0.mk ((by rw [hg]; exact (below_size (by repeat (first | (with_reducible first | exact HB.out | apply below_alloc | apply pw_below_drewN | apply below_drew1) | exact HB.out))) : w.heap.size ≤ gb649)); have n3_ := Aside0.mk ((by rw [hg]; exact (below_size (by repeat (first | (with_reducible first | exact HB.out | apply below_alloc | apply pw_below_drewN | apply below_drew1) | exact HB.out))) : w.heap.size ≤ gb649)); clear HB; have HB := n0_; have BK649 := n1_; have GW649 := n2_; have GE649 := n3_; clear n0_ n1_ n2_ n3_; clear hb hbox hg) | ((with_reducible refine gate_dst (N := 3) rfl ?_); refine box_event ?hg (N := 3) ?hd (cs := #[.slice A1_0 l1_0.length c1_0]) (t := 36) ?hr ?_; (case hd => rfl); (case hg => rfl); (case hr => first | (go_simp; done) | (go_simp; rfl)); intro gb650 hg w27 hbox hb; have n0_ := Aside0.mk (blk_below (g := gb649) (o := .cells #[.slice A0_0 l0_0.length c0_0] 36 (0, 0)) (by (with_reducible repeat (first | refine blk_drewN ?_ _ | refine blk_drew ?_ | refine blk_alloc ?_ _)); exact BK649.out) hb); have n1_ := Aside0.mk (below_step (by repeat (first | (with_reducible first | exact HB.out | apply below_alloc | apply pw_below_drewN | apply below_drew1 | refine below_set ?_ GE649.out) | exact HB.out)) hb); have n2_ := Aside0.mk (hbox); have n3_ := Aside0.mk ((by rw [hg]; exact (below_size (by repeat (first | (with_reducible first | exact HB.out | apply below_alloc | apply pw_below_drewN | apply below_drew1 | refine below_set ?_ GE649.out) | exact HB.out))) : w.heap.size ≤ gb650)); have n4_ := Aside0.mk ((by rw [hg]; exact (below_size (by repeat (first | (with_reducible first | exact HB.out | apply below_alloc | apply pw_below_drewN | apply below_drew1 | refine below_set ?_ GE649.out) | exact HB.out))) : w.heap.size ≤ gb650)); have n5_ := Aside0.mk ((by rw [hg]; exact Nat.ne_of_lt (blk_lt (g := gb649) (o := .cells #[.slice A0_0 l0_0.length c0_0] 36 (0, 0)) (by (with_reducible repeat (first | refine blk_drewN ?_ _ | refine blk_drew ?_ | refine blk_alloc ?_ _)); exact BK649.out)) : gb649 ≠ gb650)); have n6_ := Aside0.mk ((by rw [hg]; exact Nat.ne_of_gt (blk_lt (g := gb649) (o := .cells #[.slice A0_0 l0_0.length c0_0] 36 (0, 0)) (by (with_reducible repeat (first | refine blk_drewN ?_ _ | refine blk_drew ?_ | refine blk_alloc ?_ _)); exact BK649.out)) : gb650 ≠ gb649)); clear BK649; clear HB; have BK649 := n0_; have HB := n1_; have BK650 := n2_; have GW650 := n3_; have GE650 := n4_; have NB649_650 := n5_; have NB650_649 := n6_; clear n0_ n1_ n2_ n3_ n4_ n5_ n6_; clear hb hbox hg; have hnb28 := NB649_650.out; have hnc28 := NB650_649.out; have hcz29_0 : w27.cell? ⟨gb649, 0, none⟩ = some (.slice A0_0 l0_0.length c0_0) := (blk_cell BK649.out 0).trans rfl; have hfz29_0 := blk_frozen BK649.out 0) | ((with_reducible refine gate_callee (f := 21) rfl ?_); refine goesL_ (some 19) rfl rfl Tryd.func21 (by kernel_rfl) rfl #[.agg #[.slice A0_0 l0_0.length c0_0], .int .i64 1048576] rfl (by (try simp only [List.map_toArray, List.map_cons, List.map_nil]); first | done | rfl | (simp only [List.length_drop, List.length_take]; rfl)) ?_; (with_reducible refine (laws_szTrie.calls _ _ l0_0 1048576 t651 _ ?side1 ?side2 A3.out).mono ?_); (case side1 => repeat (first | exact (Kd.C_below HR0_0.out HB.out) | (with_reducible refine Kd.C_alloc ?_ _) | (with_reducible refine Kd.C_drewN ?_ _) | (with_reducible refine Kd.C_drew ?_))); (case side2 => exact HC0_0.out); rintro e w30 ⟨rfl, hb⟩; refine ⟨_, rfl, ?_⟩; have n0_ := Aside0.mk (blk_below (g := gb649) (o := .cells #[.slice A0_0 l0_0.length c0_0] 36 (0, 0)) (by (with_reducible repeat (first | refine blk_drewN ?_ _ | refine blk_drew ?_ | refine blk_alloc ?_ _)); exact BK649.out) hb); have n1_ := Aside0.mk (blk_below (g := gb650) (o := .cells #[.slice A1_0 l1_0.length c1_0] 36 (0, 0)) (by (with_reducible repeat (first | refine blk_drewN ?_ _ | refine blk_drew ?_ | refine blk_alloc ?_ _)); exact BK650.out) hb); have n2_ := Aside0.mk (below_step (by repeat (first | (with_reducible first | exact HB.out | apply below_alloc | apply pw_below_drewN | apply below_drew1 | refine below_set ?_ GE649.out | refine below_set ?_ GE650.out) | exact HB.out)) hb); clear BK649; clear BK650; clear HB; have BK649 := n0_; have BK650 := n1_; have HB := n2_; clear n0_ n1_ n2_; (try clear hb); (try clear hb2); (try clear hk); (try clear hi); have hcz31_0 : w30.cell? ⟨gb650, 0, none⟩ = some (.slice A1_0 l1_0.length c1_0) := (blk_cell BK650.out 0).trans rfl; have hfz31_0 := blk_frozen BK650.out 0) | ((with_reducible refine gate_callee (f := 21) rfl ?_); refine goesL_ (some 24) rfl rfl Tryd.func21 (by kernel_rfl) rfl #[.agg #[.slice A1_0 l1_0.length c1_0], .int .i64 t651] rfl (by (try simp only [List.map_toArray, List.map_cons, List.map_nil]); first | done | rfl | (simp only [List.length_drop, List.length_take]; rfl)) ?_; (with_reducible refine (laws_szTrie.calls _ _ l1_0 t651 t652 _ ?side1 ?side2 A10.out).mono ?_); (case side1 => repeat (first | exact (Kd.C_below HR1_0.out HB.out) | (with_reducible refine Kd.C_alloc ?_ _) | (with_reducible refine Kd.C_drewN ?_ _) | (with_reducible refine Kd.C_drew ?_))); (case side2 => exact HC1_0.out); rintro e w32 ⟨rfl, hb⟩; refine ⟨_, rfl, ?_⟩; have n0_ := Aside0.mk (blk_below (g := gb649) (o := .cells #[.slice A0_0 l0_0.length c0_0] 36 (0, 0)) (by (with_reducible repeat (first | refine blk_drewN ?_ _ | refine blk_drew ?_ | refine blk_alloc ?_ _)); exact BK649.out) hb); have n1_ := Aside0.mk (blk_below (g := gb650) (o := .cells #[.slice A1_0 l1_0.length c1_0] 36 (0, 0)) (by (with_reducible repeat (first | refine blk_drewN ?_ _ | refine blk_drew ?_ | refine blk_alloc ?_ _)); exact BK650.out) hb); have n2_ := Aside0.mk (below_step (by repeat (first | (with_reducible first | exact HB.out | apply below_alloc | apply pw_below_drewN | apply below_drew1 | refine below_set ?_ GE649.out | refine below_set ?_ GE650.out) | exact HB.out)) hb); clear BK649; clear BK650; clear HB; have BK649 := n0_; have BK650 := n1_; have HB := n2_; clear n0_ n1_ n2_; (try clear hb); (try clear hb2); (try clear hk); (try clear hi)))
   have n0_ := Aside0.mk (blk_drew BK649.out)
   have n1_ := Aside0.mk (blk_drew BK650.out)
   have n2_ := Aside0.mk (below_drew1 HB.out)
   revert n0_ n1_ n2_
   clear BK649 BK650 HB
   intro BK649 BK650 HB
   refine start_ (n := 11) (S := fun w' => w'.cell? ⟨gb649, 0, none⟩ = some (.slice A0_0 l0_0.length c0_0) ∧ w'.cell? ⟨gb650, 0, none⟩ = some (.slice A1_0 l1_0.length c1_0)) (ds := []) #[false, false, false, false, false, false, false, false, false, false, false] (by kernel_rfl) rfl rfl ⟨(blk_cell BK649.out 0).trans rfl, (blk_cell BK650.out 0).trans rfl⟩ (fun hHeld => ?_); refine with_tabW laws_FnExactJoinTries.tab8 laws_FnExactJoinTries.bits8 (fun HT_ HW_ => ?_)
   generalize w32.drew = w33 at BK649 BK650 HB hHeld ⊢
   refine take_ (i := 0) (N := some 28) (v := ?_) (a' := ?_) #[true, false, false, false, false, false, false, false, false, false, false] rfl rfl (take_ofW HT_.out HW_.out (by kernel_rfl)) (fun _ _ _ h => h) (Or.inl ⟨by rfl, ?_⟩) hHeld ?_ ?_
   rotate_left
   ·rintro w' ⟨s0, s1⟩
    go_simp
    with_reducible rfl
   rotate_left
   ·simp only [Act.put, List.setIfInBounds_toArray, List.set_cons_zero, List.set_cons_succ, i64_w, i32_w]
    rfl
   refine take_ (i := 2) (N := some 30) (v := ?_) (a' := ?_) #[true, false, true, false, false, false, false, false, false, false, false] rfl rfl (take_ofW HT_.out HW_.out (by kernel_rfl)) (fun _ _ _ h => h) (Or.inl ⟨by rfl, ?_⟩) hHeld ?_ ?_
   rotate_left
   ·rintro w' ⟨s0, s1⟩
    go_simp
    with_reducible rfl
   rotate_left
   ·simp only [Act.put, List.setIfInBounds_toArray, List.set_cons_zero, List.set_cons_succ, i64_w, i32_w]
    rfl
   refine join_ (σ := Value × Value × Value × Nat) 2 #[true, true, true, true, true, true, true, true, true, false, false] (fun s_ => [(29, .agg #[s_.1]), (31, .agg #[s_.2.1]), (32, .tuple #[.agg #[s_.2.2.1], .bool t662]), (6, .pointer (some ⟨s_.2.2.2, 0, none⟩)), (27, .tuple #[.agg #[s_.2.2.1], .bool t662]), (33, .agg #[s_.2.2.1]), (34, .bool t662)]) (fun s_ w' => (w'.cell? ⟨gb649, 0, none⟩ = some (.slice A0_0 l0_0.length c0_0) ∧ w'.cell? ⟨gb650, 0, none⟩ = some (.slice A1_0 l1_0.length c1_0)) ∧ (Kd.R k76 76 w' w.heap.size (fun k_ => some k_ ≠ (s_.2.1 : Value).ownBlock ∧ some k_ ≠ (s_.2.2.1 : Value).ownBlock) s_.1 t653) ∧ (Kd.R k76 76 w' w.heap.size (fun k_ => some k_ ≠ (s_.1 : Value).ownBlock ∧ some k_ ≠ (s_.2.2.1 : Value).ownBlock) s_.2.1 t656) ∧ (Kd.R k76 76 w' w.heap.size (fun k_ => some k_ ≠ (s_.1 : Value).ownBlock ∧ some k_ ≠ (s_.2.1 : Value).ownBlock) s_.2.2.1 t659) ∧ (w'.heap[gb649]? = some (.cells #[.slice A0_0 l0_0.length c0_0] 36 (0, 0))) ∧ (w'.heap[gb650]? = some (.cells #[.slice A1_0 l1_0.length c1_0] 36 (0, 0))) ∧ (w'.heap[s_.2.2.2]? = some (.cells #[.slice none 0 0] 26 (0, 0))) ∧ (w.heap.size ≤ s_.2.2.2) ∧ (w.heap.size ≤ s_.2.2.2) ∧ (gb649 ≠ s_.2.2.2) ∧ (s_.2.2.2 ≠ gb649) ∧ (gb650 ≠ s_.2.2.2) ∧ (s_.2.2.2 ≠ gb650) ∧ (Below w.heap.size w w')) ?_ ?_
   rotate_left
   ·intro hCont
    refine two_ (i := 1) (j := 8) (Ni := some 29) (Nj := some 6) #[true, true, true, false, false, false, false, false, false, false, false] #[true, false, true, false, false, false, false, false, true, false, false] rfl rfl rfl rfl (two_of HT_.out (by kernel_rfl)) (by decide) (by decide) (fun K hK => ?_) (fun K hK => ?_)
    ·skip
     refine goes_ Tryd.func23 (by kernel_rfl) rfl #[.agg #[.slice A0_0 l0_0.length c0_0]] (by rfl) rfl rfl (by (try simp only [List.map_toArray, List.map_cons, List.map_nil]); first | done | rfl | (simp only [List.length_drop, List.length_take]; rfl)) ?_
     with_reducible refine (laws_toTrie.calls k _ _ l0_0 t653 _ ?side1 ?side2 A19.out).mono ?_
     (case side1 => exact (Kd.C_below HR0_0.out HB.out))
     (case side2 => exact HC0_0.out)
     rintro e w34 ⟨v654, rfl, ho0, hb⟩
     refine ⟨_, rfl, ?_⟩
     have n0_ := Aside0.mk (Kd.R_lower ho0 (below_size HB.out))
     have n1_ := Aside0.mk (blk_below BK649.out hb)
     have n2_ := Aside0.mk (blk_below BK650.out hb)
     have n3_ := Aside0.mk (below_step HB.out hb)
     revert n0_ n1_ n2_ n3_
     clear BK649 BK650 HB
     intro HO655 BK649 BK650 HB
     (try clear hb)
     (try clear hb2)
     (try clear hk)
     (try clear hi)
     (try clear ho0)
     refine hK.out _ _ ⟨(blk_cell BK649.out 0).trans rfl, (blk_cell BK650.out 0).trans rfl⟩ (fun hHeld => ?_)
     clear hK K
     refine norm_ (a' := ?_) ?_ ?_
     rotate_left
     ·show Act.put _ (some 29) _ = _
      simp only [Act.put, List.setIfInBounds_toArray, List.set_cons_zero, List.set_cons_succ, i64_w, i32_w]
      rfl
     refine two_ (i := 3) (j := 8) (Ni := some 31) (Nj := some 6) #[true, true, true, true, false, false, false, false, false, false, false] #[true, true, true, false, false, false, false, false, true, false, false] rfl rfl rfl rfl (two_of HT_.out (by kernel_rfl)) (by decide) (by decide) (fun K hK => ?_) (fun K hK => ?_)
     ·skip
      refine goes_ Tryd.func23 (by kernel_rfl) rfl #[.agg #[.slice A1_0 l1_0.length c1_0]] (by rfl) rfl rfl (by (try simp only [List.map_toArray, List.map_cons, List.map_nil]); first | done | rfl | (simp only [List.length_drop, List.length_take]; rfl)) ?_
      with_reducible refine (laws_toTrie.calls k _ _ l1_0 t656 _ ?side1 ?side2 A20.out).mono ?_
      (case side1 => exact (Kd.C_below HR1_0.out HB.out))
      (case side2 => exact HC1_0.out)
      rintro e w35 ⟨v657, rfl, ho0, hb⟩
      refine ⟨_, rfl, ?_⟩
      have n0_ := Aside0.mk (Kd.R_elder' HO655.out (Kd.R_base ho0) hb)
      have n1_ := Aside0.mk (Kd.R_lower (Kd.R_new' ho0 (Kd.R_lt HO655.out)) (below_size HB.out))
      have n2_ := Aside0.mk (blk_below BK649.out hb)
      have n3_ := Aside0.mk (blk_below BK650.out hb)
      have n4_ := Aside0.mk (below_step HB.out hb)
      revert n0_ n1_ n2_ n3_ n4_
      clear HO655 BK649 BK650 HB
      intro HO655 HO658 BK649 BK650 HB
      (try clear hb)
      (try clear hb2)
      (try clear hk)
      (try clear hi)
      (try clear ho0)
      obtain ⟨Ao36, co36, eo36⟩ := Kd.R_slice HO655.out
      (first | subst eo36 | (injection eo36 with f1_ f2_ f3_; have f4_ := f1_.symm; have f5_ := f3_.symm; clear f1_ f2_ f3_; subst f4_; subst f5_))
      obtain ⟨Ao37, co37, eo37⟩ := Kd.R_slice HO658.out
      (first | subst eo37 | (injection eo37 with f1_ f2_ f3_; have f4_ := f1_.symm; have f5_ := f3_.symm; clear f1_ f2_ f3_; subst f4_; subst f5_))
      refine hK.out _ _ ⟨(blk_cell BK649.out 0).trans rfl, (blk_cell BK650.out 0).trans rfl⟩ (fun hHeld => ?_)
      clear hK K
      refine norm_ (a' := ?_) ?_ ?_
      rotate_left
      ·show Act.put _ (some 31) _ = _
       simp only [Act.put, List.setIfInBounds_toArray, List.set_cons_zero, List.set_cons_succ, i64_w, i32_w]
       rfl
      refine two_ (i := 4) (j := 8) (Ni := some 32) (Nj := some 6) #[true, true, true, true, true, false, false, false, false, false, false] #[true, true, true, true, false, false, false, false, true, false, false] rfl rfl rfl rfl (two_of HT_.out (by kernel_rfl)) (by decide) (by decide) (fun K hK => ?_) (fun K hK => ?_)
      ·skip
       refine goes_ Tryd.func31 (by kernel_rfl) rfl #[.agg #[.slice Ao36 t653.length co36], .agg #[.slice Ao37 t656.length co37]] (by rfl) rfl rfl (by (try simp only [List.map_toArray, List.map_cons, List.map_nil]); first | done | rfl | (simp only [List.length_drop, List.length_take]; rfl)) ?_
       with_reducible refine (spec_JoinTries.calls k _ _ t653 _ _ t656 t659 t662 _ ?side1 ?side2 ?side3 ?side4 A21.out).mono ?_
       (case side1 => exact (Kd.R_reads' HO655.out).2.2)
       (case side2 => exact (Kd.R_reads' HO655.out).2.1)
       (case side3 => exact (Kd.R_reads' HO658.out).2.2)
       (case side4 => exact (Kd.R_reads' HO658.out).2.1)
       rintro e w38 ⟨v660, rfl, ho0, hb⟩
       refine ⟨_, rfl, ?_⟩
       have n0_ := Aside0.mk (Kd.R_elder' HO655.out (Kd.R_base ho0) hb)
       have n1_ := Aside0.mk (Kd.R_elder' HO658.out (Kd.R_base ho0) hb)
       have n2_ := Aside0.mk (Kd.R_lower (Kd.R_new' (Kd.R_new' ho0 (Kd.R_lt HO655.out)) (Kd.R_lt HO658.out)) (below_size HB.out))
       have n3_ := Aside0.mk (blk_below BK649.out hb)
       have n4_ := Aside0.mk (blk_below BK650.out hb)
       have n5_ := Aside0.mk (below_step HB.out hb)
       revert n0_ n1_ n2_ n3_ n4_ n5_
       clear HO655 HO658 BK649 BK650 HB
       intro HO655 HO658 HO661 BK649 BK650 HB
       (try clear hb)
       (try clear hb2)
       (try clear hk)
       (try clear hi)
       (try clear ho0)
       refine hK.out _ _ ⟨(blk_cell BK649.out 0).trans rfl, (blk_cell BK650.out 0).trans rfl⟩ (fun hHeld => ?_)
       clear hK K
       refine norm_ (a' := ?_) ?_ ?_
       rotate_left
       ·show Act.put _ (some 32) _ = _
        simp only [Act.put, List.setIfInBounds_toArray, List.set_cons_zero, List.set_cons_succ, i64_w, i32_w]
        rfl
       refine pure_ (i := 5) (N := some 27) (v := ?_) (a' := ?_) #[true, true, true, true, true, true, false, false, false, false, false] rfl rfl (any_of HT_.out (by kernel_rfl)) (fun _ _ _ h => h) (Or.inl ⟨by rfl, ?_⟩) ?_ ?_
       rotate_left
       ·intro w'
        go_simp
        with_reducible rfl
       rotate_left
       ·simp only [Act.put, List.setIfInBounds_toArray, List.set_cons_zero, List.set_cons_succ, i64_w, i32_w]
        rfl
       refine pure_ (i := 6) (N := some 33) (v := ?_) (a' := ?_) #[true, true, true, true, true, true, true, false, false, false, false] rfl rfl (any_of HT_.out (by kernel_rfl)) (fun _ _ _ h => h) (Or.inl ⟨by rfl, ?_⟩) ?_ ?_
       rotate_left
       ·intro w'
        go_simp
        with_reducible rfl
       rotate_left
       ·simp only [Act.put, List.setIfInBounds_toArray, List.set_cons_zero, List.set_cons_succ, i64_w, i32_w]
        rfl
       refine pure_ (i := 7) (N := some 34) (v := ?_) (a' := ?_) #[true, true, true, true, true, true, true, true, false, false, false] rfl rfl (any_of HT_.out (by kernel_rfl)) (fun _ _ _ h => h) (Or.inl ⟨by rfl, ?_⟩) ?_ ?_
       rotate_left
       ·intro w'
        go_simp
        with_reducible rfl
       rotate_left
       ·simp only [Act.put, List.setIfInBounds_toArray, List.set_cons_zero, List.set_cons_succ, i64_w, i32_w]
        rfl
       refine one_ (i := 8) (N := some 6) #[true, true, true, true, true, true, true, true, true, false, false] rfl rfl (one_of HT_.out (by kernel_rfl)) (by decide) (fun K hK => ?_)
       refine box_step ?hg (N := 6) ?hd (cs := #[.slice none 0 0]) (t := 26) ?hr ?_; (case hd => rfl); (case hg => rfl); (case hr => first | (go_simp; done) | (go_simp; rfl))
       intro gb663 hg w39 hbox hb
       have n0_ := Aside0.mk (Kd.R_below HO655.out hb)
       have n1_ := Aside0.mk (Kd.R_below HO658.out hb)
       have n2_ := Aside0.mk (Kd.R_below HO661.out hb)
       have n3_ := Aside0.mk (blk_below BK649.out hb)
       have n4_ := Aside0.mk (blk_below BK650.out hb)
       have n5_ := Aside0.mk (below_step HB.out hb)
       have n6_ := Aside0.mk (hbox)
       have n7_ := Aside0.mk ((by rw [hg]; exact (below_size HB.out) : w.heap.size ≤ gb663))
       have n8_ := Aside0.mk ((by rw [hg]; exact (below_size HB.out) : w.heap.size ≤ gb663))
       have n9_ := Aside0.mk ((by rw [hg]; exact Nat.ne_of_lt (blk_lt BK649.out) : gb649 ≠ gb663))
       have n10_ := Aside0.mk ((by rw [hg]; exact Nat.ne_of_gt (blk_lt BK649.out) : gb663 ≠ gb649))
       have n11_ := Aside0.mk ((by rw [hg]; exact Nat.ne_of_lt (blk_lt BK650.out) : gb650 ≠ gb663))
       have n12_ := Aside0.mk ((by rw [hg]; exact Nat.ne_of_gt (blk_lt BK650.out) : gb663 ≠ gb650))
       revert n0_ n1_ n2_ n3_ n4_ n5_ n6_ n7_ n8_ n9_ n10_ n11_ n12_
       clear HO655 HO658 HO661 BK649 BK650 HB
       intro HO655 HO658 HO661 BK649 BK650 HB BK663 GW663 GE663 NB649_663 NB663_649 NB650_663 NB663_650
       clear hb hbox hg
       refine hK.out _ _ ⟨(blk_cell BK649.out 0).trans rfl, (blk_cell BK650.out 0).trans rfl⟩ (fun hHeld => ?_)
       clear hK K
       refine norm_ (a' := ?_) ?_ ?_
       rotate_left
       ·show Act.put _ (some 6) _ = _
        simp only [Act.put, List.setIfInBounds_toArray, List.set_cons_zero, List.set_cons_succ, i64_w, i32_w]
        rfl
       exact norm_ (by simp only [putAll, Act.put, List.setIfInBounds_toArray, List.set_cons_zero, List.set_cons_succ]) (hCont (.slice Ao36 t653.length co36, .slice Ao37 t656.length co37, v660, gb663) _ ⟨hHeld, (Kd.R_mono HO655.out (fun _ hk => ⟨hk.1.2, hk.2⟩)), (Kd.R_mono HO658.out (fun _ hk => ⟨hk.1.2, hk.2⟩)), (Kd.R_mono HO661.out (fun _ hk => ⟨hk.1.2, hk.2⟩)), BK649.out, BK650.out, BK663.out, GW663.out, GE663.out, NB649_663.out, NB663_649.out, NB650_663.out, NB663_650.out, HB.out⟩)
      ·skip
       refine box_step ?hg (N := 6) ?hd (cs := #[.slice none 0 0]) (t := 26) ?hr ?_; (case hd => rfl); (case hg => rfl); (case hr => first | (go_simp; done) | (go_simp; rfl))
       intro gb663 hg w36 hbox hb
       have n0_ := Aside0.mk (Kd.R_below HO655.out hb)
       have n1_ := Aside0.mk (Kd.R_below HO658.out hb)
       have n2_ := Aside0.mk (blk_below BK649.out hb)
       have n3_ := Aside0.mk (blk_below BK650.out hb)
       have n4_ := Aside0.mk (below_step HB.out hb)
       have n5_ := Aside0.mk (hbox)
       have n6_ := Aside0.mk ((by rw [hg]; exact (below_size HB.out) : w.heap.size ≤ gb663))
       have n7_ := Aside0.mk ((by rw [hg]; exact (below_size HB.out) : w.heap.size ≤ gb663))
       have n8_ := Aside0.mk ((by rw [hg]; exact Nat.ne_of_lt (blk_lt BK649.out) : gb649 ≠ gb663))
       have n9_ := Aside0.mk ((by rw [hg]; exact Nat.ne_of_gt (blk_lt BK649.out) : gb663 ≠ gb649))
       have n10_ := Aside0.mk ((by rw [hg]; exact Nat.ne_of_lt (blk_lt BK650.out) : gb650 ≠ gb663))
       have n11_ := Aside0.mk ((by rw [hg]; exact Nat.ne_of_gt (blk_lt BK650.out) : gb663 ≠ gb650))
       revert n0_ n1_ n2_ n3_ n4_ n5_ n6_ n7_ n8_ n9_ n10_ n11_
       clear HO655 HO658 BK649 BK650 HB
       intro HO655 HO658 BK649 BK650 HB BK663 GW663 GE663 NB649_663 NB663_649 NB650_663 NB663_650
       clear hb hbox hg
       obtain ⟨Ao37, co37, eo37⟩ := Kd.R_slice HO655.out
       (first | subst eo37 | (injection eo37 with f1_ f2_ f3_; have f4_ := f1_.symm; have f5_ := f3_.symm; clear f1_ f2_ f3_; subst f4_; subst f5_))
       obtain ⟨Ao38, co38, eo38⟩ := Kd.R_slice HO658.out
       (first | subst eo38 | (injection eo38 with f1_ f2_ f3_; have f4_ := f1_.symm; have f5_ := f3_.symm; clear f1_ f2_ f3_; subst f4_; subst f5_))
       refine hK.out _ _ ⟨(blk_cell BK649.out 0).trans rfl, (blk_cell BK650.out 0).trans rfl⟩ (fun hHeld => ?_)
       clear hK K
       refine norm_ (a' := ?_) ?_ ?_
       rotate_left
       ·show Act.put _ (some 6) _ = _
        simp only [Act.put, List.setIfInBounds_toArray, List.set_cons_zero, List.set_cons_succ, i64_w, i32_w]
        rfl
       refine one_ (i := 4) (N := some 32) #[true, true, true, true, true, false, false, false, true, false, false] rfl rfl (one_of HT_.out (by kernel_rfl)) (by decide) (fun K hK => ?_)
       refine goes_ Tryd.func31 (by kernel_rfl) rfl #[.agg #[.slice Ao37 t653.length co37], .agg #[.slice Ao38 t656.length co38]] (by rfl) rfl rfl (by (try simp only [List.map_toArray, List.map_cons, List.map_nil]); first | done | rfl | (simp only [List.length_drop, List.length_take]; rfl)) ?_
       with_reducible refine (spec_JoinTries.calls k _ _ t653 _ _ t656 t659 t662 _ ?side1 ?side2 ?side3 ?side4 A21.out).mono ?_
       (case side1 => exact (Kd.R_reads' HO655.out).2.2)
       (case side2 => exact (Kd.R_reads' HO655.out).2.1)
       (case side3 => exact (Kd.R_reads' HO658.out).2.2)
       (case side4 => exact (Kd.R_reads' HO658.out).2.1)
       rintro e w39 ⟨v660, rfl, ho0, hb⟩
       refine ⟨_, rfl, ?_⟩
       have n0_ := Aside0.mk (Kd.R_elder' HO655.out (Kd.R_base ho0) hb)
       have n1_ := Aside0.mk (Kd.R_elder' HO658.out (Kd.R_base ho0) hb)
       have n2_ := Aside0.mk (Kd.R_lower (Kd.R_new' (Kd.R_new' ho0 (Kd.R_lt HO655.out)) (Kd.R_lt HO658.out)) (below_size HB.out))
       have n3_ := Aside0.mk (blk_below BK649.out hb)
       have n4_ := Aside0.mk (blk_below BK650.out hb)
       have n5_ := Aside0.mk (blk_below BK663.out hb)
       have n6_ := Aside0.mk (below_step HB.out hb)
       revert n0_ n1_ n2_ n3_ n4_ n5_ n6_
       clear HO655 HO658 BK649 BK650 BK663 HB
       intro HO655 HO658 HO661 BK649 BK650 BK663 HB
       (try clear hb)
       (try clear hb2)
       (try clear hk)
       (try clear hi)
       (try clear ho0)
       refine hK.out _ _ ⟨(blk_cell BK649.out 0).trans rfl, (blk_cell BK650.out 0).trans rfl⟩ (fun hHeld => ?_)
       clear hK K
       refine norm_ (a' := ?_) ?_ ?_
       rotate_left
       ·show Act.put _ (some 32) _ = _
        simp only [Act.put, List.setIfInBounds_toArray, List.set_cons_zero, List.set_cons_succ, i64_w, i32_w]
        rfl
       refine pure_ (i := 5) (N := some 27) (v := ?_) (a' := ?_) #[true, true, true, true, true, true, false, false, true, false, false] rfl rfl (any_of HT_.out (by kernel_rfl)) (fun _ _ _ h => h) (Or.inl ⟨by rfl, ?_⟩) ?_ ?_
       rotate_left
       ·intro w'
        go_simp
        with_reducible rfl
       rotate_left
       ·simp only [Act.put, List.setIfInBounds_toArray, List.set_cons_zero, List.set_cons_succ, i64_w, i32_w]
        rfl
       refine pure_ (i := 6) (N := some 33) (v := ?_) (a' := ?_) #[true, true, true, true, true, true, true, false, true, false, false] rfl rfl (any_of HT_.out (by kernel_rfl)) (fun _ _ _ h => h) (Or.inl ⟨by rfl, ?_⟩) ?_ ?_
       rotate_left
       ·intro w'
        go_simp
        with_reducible rfl
       rotate_left
       ·simp only [Act.put, List.setIfInBounds_toArray, List.set_cons_zero, List.set_cons_succ, i64_w, i32_w]
        rfl
       refine pure_ (i := 7) (N := some 34) (v := ?_) (a' := ?_) #[true, true, true, true, true, true, true, true, true, false, false] rfl rfl (any_of HT_.out (by kernel_rfl)) (fun _ _ _ h => h) (Or.inl ⟨by rfl, ?_⟩) ?_ ?_
       rotate_left
       ·intro w'
        go_simp
        with_reducible rfl
       rotate_left
       ·simp only [Act.put, List.setIfInBounds_toArray, List.set_cons_zero, List.set_cons_succ, i64_w, i32_w]
        rfl
       exact norm_ (by simp only [putAll, Act.put, List.setIfInBounds_toArray, List.set_cons_zero, List.set_cons_succ]) (hCont (.slice Ao37 t653.length co37, .slice Ao38 t656.length co38, v660, gb663) _ ⟨hHeld, (Kd.R_mono HO655.out (fun _ hk => ⟨hk.1.2, hk.2⟩)), (Kd.R_mono HO658.out (fun _ hk => ⟨hk.1.2, hk.2⟩)), (Kd.R_mono HO661.out (fun _ hk => ⟨hk.1.2, hk.2⟩)), BK649.out, BK650.out, BK663.out, GW663.out, GE663.out, NB649_663.out, NB663_649.out, NB650_663.out, NB663_650.out, HB.out⟩)
     ·skip
      refine box_step ?hg (N := 6) ?hd (cs := #[.slice none 0 0]) (t := 26) ?hr ?_; (case hd => rfl); (case hg => rfl); (case hr => first | (go_simp; done) | (go_simp; rfl))
      intro gb663 hg w35 hbox hb
      have n0_ := Aside0.mk (Kd.R_below HO655.out hb)
      have n1_ := Aside0.mk (blk_below BK649.out hb)
      have n2_ := Aside0.mk (blk_below BK650.out hb)
      have n3_ := Aside0.mk (below_step HB.out hb)
      have n4_ := Aside0.mk (hbox)
      have n5_ := Aside0.mk ((by rw [hg]; exact (below_size HB.out) : w.heap.size ≤ gb663))
      have n6_ := Aside0.mk ((by rw [hg]; exact (below_size HB.out) : w.heap.size ≤ gb663))
      have n7_ := Aside0.mk ((by rw [hg]; exact Nat.ne_of_lt (blk_lt BK649.out) : gb649 ≠ gb663))
      have n8_ := Aside0.mk ((by rw [hg]; exact Nat.ne_of_gt (blk_lt BK649.out) : gb663 ≠ gb649))
      have n9_ := Aside0.mk ((by rw [hg]; exact Nat.ne_of_lt (blk_lt BK650.out) : gb650 ≠ gb663))
      have n10_ := Aside0.mk ((by rw [hg]; exact Nat.ne_of_gt (blk_lt BK650.out) : gb663 ≠ gb650))
      revert n0_ n1_ n2_ n3_ n4_ n5_ n6_ n7_ n8_ n9_ n10_
      clear HO655 BK649 BK650 HB
      intro HO655 BK649 BK650 HB BK663 GW663 GE663 NB649_663 NB663_649 NB650_663 NB663_650
      clear hb hbox hg
      refine hK.out _ _ ⟨(blk_cell BK649.out 0).trans rfl, (blk_cell BK650.out 0).trans rfl⟩ (fun hHeld => ?_)
      clear hK K
      refine norm_ (a' := ?_) ?_ ?_
      rotate_left
      ·show Act.put _ (some 6) _ = _
       simp only [Act.put, List.setIfInBounds_toArray, List.set_cons_zero, List.set_cons_succ, i64_w, i32_w]
       rfl
      refine one_ (i := 3) (N := some 31) #[true, true, true, true, false, false, false, false, true, false, false] rfl rfl (one_of HT_.out (by kernel_rfl)) (by decide) (fun K hK => ?_)
      refine goes_ Tryd.func23 (by kernel_rfl) rfl #[.agg #[.slice A1_0 l1_0.length c1_0]] (by rfl) rfl rfl (by (try simp only [List.map_toArray, List.map_cons, List.map_nil]); first | done | rfl | (simp only [List.length_drop, List.length_take]; rfl)) ?_
      with_reducible refine (laws_toTrie.calls k _ _ l1_0 t656 _ ?side1 ?side2 A20.out).mono ?_
      (case side1 => exact (Kd.C_below HR1_0.out HB.out))
      (case side2 => exact HC1_0.out)
      rintro e w36 ⟨v657, rfl, ho0, hb⟩
      refine ⟨_, rfl, ?_⟩
      have n0_ := Aside0.mk (Kd.R_elder' HO655.out (Kd.R_base ho0) hb)
      have n1_ := Aside0.mk (Kd.R_lower (Kd.R_new' ho0 (Kd.R_lt HO655.out)) (below_size HB.out))
      have n2_ := Aside0.mk (blk_below BK649.out hb)
      have n3_ := Aside0.mk (blk_below BK650.out hb)
      have n4_ := Aside0.mk (blk_below BK663.out hb)
      have n5_ := Aside0.mk (below_step HB.out hb)
      revert n0_ n1_ n2_ n3_ n4_ n5_
      clear HO655 BK649 BK650 BK663 HB
      intro HO655 HO658 BK649 BK650 BK663 HB
      (try clear hb)
      (try clear hb2)
      (try clear hk)
      (try clear hi)
      (try clear ho0)
      obtain ⟨Ao37, co37, eo37⟩ := Kd.R_slice HO655.out
      (first | subst eo37 | (injection eo37 with f1_ f2_ f3_; have f4_ := f1_.symm; have f5_ := f3_.symm; clear f1_ f2_ f3_; subst f4_; subst f5_))
      obtain ⟨Ao38, co38, eo38⟩ := Kd.R_slice HO658.out
      (first | subst eo38 | (injection eo38 with f1_ f2_ f3_; have f4_ := f1_.symm; have f5_ := f3_.symm; clear f1_ f2_ f3_; subst f4_; subst f5_))
      refine hK.out _ _ ⟨(blk_cell BK649.out 0).trans rfl, (blk_cell BK650.out 0).trans rfl⟩ (fun hHeld => ?_)
      clear hK K
      refine norm_ (a' := ?_) ?_ ?_
      rotate_left
      ·show Act.put _ (some 31) _ = _
       simp only [Act.put, List.setIfInBounds_toArray, List.set_cons_zero, List.set_cons_succ, i64_w, i32_w]
       rfl
      refine one_ (i := 4) (N := some 32) #[true, true, true, true, true, false, false, false, true, false, false] rfl rfl (one_of HT_.out (by kernel_rfl)) (by decide) (fun K hK => ?_)
      refine goes_ Tryd.func31 (by kernel_rfl) rfl #[.agg #[.slice Ao37 t653.length co37], .agg #[.slice Ao38 t656.length co38]] (by rfl) rfl rfl (by (try simp only [List.map_toArray, List.map_cons, List.map_nil]); first | done | rfl | (simp only [List.length_drop, List.length_take]; rfl)) ?_
      with_reducible refine (spec_JoinTries.calls k _ _ t653 _ _ t656 t659 t662 _ ?side1 ?side2 ?side3 ?side4 A21.out).mono ?_
      (case side1 => exact (Kd.R_reads' HO655.out).2.2)
      (case side2 => exact (Kd.R_reads' HO655.out).2.1)
      (case side3 => exact (Kd.R_reads' HO658.out).2.2)
      (case side4 => exact (Kd.R_reads' HO658.out).2.1)
      rintro e w39 ⟨v660, rfl, ho0, hb⟩
      refine ⟨_, rfl, ?_⟩
      have n0_ := Aside0.mk (Kd.R_elder' HO655.out (Kd.R_base ho0) hb)
      have n1_ := Aside0.mk (Kd.R_elder' HO658.out (Kd.R_base ho0) hb)
      have n2_ := Aside0.mk (Kd.R_lower (Kd.R_new' (Kd.R_new' ho0 (Kd.R_lt HO655.out)) (Kd.R_lt HO658.out)) (below_size HB.out))
      have n3_ := Aside0.mk (blk_below BK649.out hb)
      have n4_ := Aside0.mk (blk_below BK650.out hb)
      have n5_ := Aside0.mk (blk_below BK663.out hb)
      have n6_ := Aside0.mk (below_step HB.out hb)
      revert n0_ n1_ n2_ n3_ n4_ n5_ n6_
      clear HO655 HO658 BK649 BK650 BK663 HB
      intro HO655 HO658 HO661 BK649 BK650 BK663 HB
      (try clear hb)
      (try clear hb2)
      (try clear hk)
      (try clear hi)
      (try clear ho0)
      refine hK.out _ _ ⟨(blk_cell BK649.out 0).trans rfl, (blk_cell BK650.out 0).trans rfl⟩ (fun hHeld => ?_)
      clear hK K
      refine norm_ (a' := ?_) ?_ ?_
      rotate_left
      ·show Act.put _ (some 32) _ = _
       simp only [Act.put, List.setIfInBounds_toArray, List.set_cons_zero, List.set_cons_succ, i64_w, i32_w]
       rfl
      refine pure_ (i := 5) (N := some 27) (v := ?_) (a' := ?_) #[true, true, true, true, true, true, false, false, true, false, false] rfl rfl (any_of HT_.out (by kernel_rfl)) (fun _ _ _ h => h) (Or.inl ⟨by rfl, ?_⟩) ?_ ?_
      rotate_left
      ·intro w'
       go_simp
       with_reducible rfl
      rotate_left
      ·simp only [Act.put, List.setIfInBounds_toArray, List.set_cons_zero, List.set_cons_succ, i64_w, i32_w]
       rfl
      refine pure_ (i := 6) (N := some 33) (v := ?_) (a' := ?_) #[true, true, true, true, true, true, true, false, true, false, false] rfl rfl (any_of HT_.out (by kernel_rfl)) (fun _ _ _ h => h) (Or.inl ⟨by rfl, ?_⟩) ?_ ?_
      rotate_left
      ·intro w'
       go_simp
       with_reducible rfl
      rotate_left
      ·simp only [Act.put, List.setIfInBounds_toArray, List.set_cons_zero, List.set_cons_succ, i64_w, i32_w]
       rfl
      refine pure_ (i := 7) (N := some 34) (v := ?_) (a' := ?_) #[true, true, true, true, true, true, true, true, true, false, false] rfl rfl (any_of HT_.out (by kernel_rfl)) (fun _ _ _ h => h) (Or.inl ⟨by rfl, ?_⟩) ?_ ?_
      rotate_left
      ·intro w'
       go_simp
       with_reducible rfl
      rotate_left
      ·simp only [Act.put, List.setIfInBounds_toArray, List.set_cons_zero, List.set_cons_succ, i64_w, i32_w]
       rfl
      exact norm_ (by simp only [putAll, Act.put, List.setIfInBounds_toArray, List.set_cons_zero, List.set_cons_succ]) (hCont (.slice Ao37 t653.length co37, .slice Ao38 t656.length co38, v660, gb663) _ ⟨hHeld, (Kd.R_mono HO655.out (fun _ hk => ⟨hk.1.2, hk.2⟩)), (Kd.R_mono HO658.out (fun _ hk => ⟨hk.1.2, hk.2⟩)), (Kd.R_mono HO661.out (fun _ hk => ⟨hk.1.2, hk.2⟩)), BK649.out, BK650.out, BK663.out, GW663.out, GE663.out, NB649_663.out, NB663_649.out, NB650_663.out, NB663_650.out, HB.out⟩)
    ·skip
     refine box_step ?hg (N := 6) ?hd (cs := #[.slice none 0 0]) (t := 26) ?hr ?_; (case hd => rfl); (case hg => rfl); (case hr => first | (go_simp; done) | (go_simp; rfl))
     intro gb663 hg w34 hbox hb
     have n0_ := Aside0.mk (blk_below BK649.out hb)
     have n1_ := Aside0.mk (blk_below BK650.out hb)
     have n2_ := Aside0.mk (below_step HB.out hb)
     have n3_ := Aside0.mk (hbox)
     have n4_ := Aside0.mk ((by rw [hg]; exact (below_size HB.out) : w.heap.size ≤ gb663))
     have n5_ := Aside0.mk ((by rw [hg]; exact (below_size HB.out) : w.heap.size ≤ gb663))
     have n6_ := Aside0.mk ((by rw [hg]; exact Nat.ne_of_lt (blk_lt BK649.out) : gb649 ≠ gb663))
     have n7_ := Aside0.mk ((by rw [hg]; exact Nat.ne_of_gt (blk_lt BK649.out) : gb663 ≠ gb649))
     have n8_ := Aside0.mk ((by rw [hg]; exact Nat.ne_of_lt (blk_lt BK650.out) : gb650 ≠ gb663))
     have n9_ := Aside0.mk ((by rw [hg]; exact Nat.ne_of_gt (blk_lt BK650.out) : gb663 ≠ gb650))
     revert n0_ n1_ n2_ n3_ n4_ n5_ n6_ n7_ n8_ n9_
     clear BK649 BK650 HB
     intro BK649 BK650 HB BK663 GW663 GE663 NB649_663 NB663_649 NB650_663 NB663_650
     clear hb hbox hg
     refine hK.out _ _ ⟨(blk_cell BK649.out 0).trans rfl, (blk_cell BK650.out 0).trans rfl⟩ (fun hHeld => ?_)
     clear hK K
     refine norm_ (a' := ?_) ?_ ?_
     rotate_left
     ·show Act.put _ (some 6) _ = _
      simp only [Act.put, List.setIfInBounds_toArray, List.set_cons_zero, List.set_cons_succ, i64_w, i32_w]
      rfl
     refine one_ (i := 1) (N := some 29) #[true, true, true, false, false, false, false, false, true, false, false] rfl rfl (one_of HT_.out (by kernel_rfl)) (by decide) (fun K hK => ?_)
     refine goes_ Tryd.func23 (by kernel_rfl) rfl #[.agg #[.slice A0_0 l0_0.length c0_0]] (by rfl) rfl rfl (by (try simp only [List.map_toArray, List.map_cons, List.map_nil]); first | done | rfl | (simp only [List.length_drop, List.length_take]; rfl)) ?_
     with_reducible refine (laws_toTrie.calls k _ _ l0_0 t653 _ ?side1 ?side2 A19.out).mono ?_
     (case side1 => exact (Kd.C_below HR0_0.out HB.out))
     (case side2 => exact HC0_0.out)
     rintro e w35 ⟨v654, rfl, ho0, hb⟩
     refine ⟨_, rfl, ?_⟩
     have n0_ := Aside0.mk (Kd.R_lower ho0 (below_size HB.out))
     have n1_ := Aside0.mk (blk_below BK649.out hb)
     have n2_ := Aside0.mk (blk_below BK650.out hb)
     have n3_ := Aside0.mk (blk_below BK663.out hb)
     have n4_ := Aside0.mk (below_step HB.out hb)
     revert n0_ n1_ n2_ n3_ n4_
     clear BK649 BK650 BK663 HB
     intro HO655 BK649 BK650 BK663 HB
     (try clear hb)
     (try clear hb2)
     (try clear hk)
     (try clear hi)
     (try clear ho0)
     refine hK.out _ _ ⟨(blk_cell BK649.out 0).trans rfl, (blk_cell BK650.out 0).trans rfl⟩ (fun hHeld => ?_)
     clear hK K
     refine norm_ (a' := ?_) ?_ ?_
     rotate_left
     ·show Act.put _ (some 29) _ = _
      simp only [Act.put, List.setIfInBounds_toArray, List.set_cons_zero, List.set_cons_succ, i64_w, i32_w]
      rfl
     refine one_ (i := 3) (N := some 31) #[true, true, true, true, false, false, false, false, true, false, false] rfl rfl (one_of HT_.out (by kernel_rfl)) (by decide) (fun K hK => ?_)
     refine goes_ Tryd.func23 (by kernel_rfl) rfl #[.agg #[.slice A1_0 l1_0.length c1_0]] (by rfl) rfl rfl (by (try simp only [List.map_toArray, List.map_cons, List.map_nil]); first | done | rfl | (simp only [List.length_drop, List.length_take]; rfl)) ?_
     with_reducible refine (laws_toTrie.calls k _ _ l1_0 t656 _ ?side1 ?side2 A20.out).mono ?_
     (case side1 => exact (Kd.C_below HR1_0.out HB.out))
     (case side2 => exact HC1_0.out)
     rintro e w36 ⟨v657, rfl, ho0, hb⟩
     refine ⟨_, rfl, ?_⟩
     have n0_ := Aside0.mk (Kd.R_elder' HO655.out (Kd.R_base ho0) hb)
     have n1_ := Aside0.mk (Kd.R_lower (Kd.R_new' ho0 (Kd.R_lt HO655.out)) (below_size HB.out))
     have n2_ := Aside0.mk (blk_below BK649.out hb)
     have n3_ := Aside0.mk (blk_below BK650.out hb)
     have n4_ := Aside0.mk (blk_below BK663.out hb)
     have n5_ := Aside0.mk (below_step HB.out hb)
     revert n0_ n1_ n2_ n3_ n4_ n5_
     clear HO655 BK649 BK650 BK663 HB
     intro HO655 HO658 BK649 BK650 BK663 HB
     (try clear hb)
     (try clear hb2)
     (try clear hk)
     (try clear hi)
     (try clear ho0)
     obtain ⟨Ao37, co37, eo37⟩ := Kd.R_slice HO655.out
     (first | subst eo37 | (injection eo37 with f1_ f2_ f3_; have f4_ := f1_.symm; have f5_ := f3_.symm; clear f1_ f2_ f3_; subst f4_; subst f5_))
     obtain ⟨Ao38, co38, eo38⟩ := Kd.R_slice HO658.out
     (first | subst eo38 | (injection eo38 with f1_ f2_ f3_; have f4_ := f1_.symm; have f5_ := f3_.symm; clear f1_ f2_ f3_; subst f4_; subst f5_))
     refine hK.out _ _ ⟨(blk_cell BK649.out 0).trans rfl, (blk_cell BK650.out 0).trans rfl⟩ (fun hHeld => ?_)
     clear hK K
     refine norm_ (a' := ?_) ?_ ?_
     rotate_left
     ·show Act.put _ (some 31) _ = _
      simp only [Act.put, List.setIfInBounds_toArray, List.set_cons_zero, List.set_cons_succ, i64_w, i32_w]
      rfl
     refine one_ (i := 4) (N := some 32) #[true, true, true, true, true, false, false, false, true, false, false] rfl rfl (one_of HT_.out (by kernel_rfl)) (by decide) (fun K hK => ?_)
     refine goes_ Tryd.func31 (by kernel_rfl) rfl #[.agg #[.slice Ao37 t653.length co37], .agg #[.slice Ao38 t656.length co38]] (by rfl) rfl rfl (by (try simp only [List.map_toArray, List.map_cons, List.map_nil]); first | done | rfl | (simp only [List.length_drop, List.length_take]; rfl)) ?_
     with_reducible refine (spec_JoinTries.calls k _ _ t653 _ _ t656 t659 t662 _ ?side1 ?side2 ?side3 ?side4 A21.out).mono ?_
     (case side1 => exact (Kd.R_reads' HO655.out).2.2)
     (case side2 => exact (Kd.R_reads' HO655.out).2.1)
     (case side3 => exact (Kd.R_reads' HO658.out).2.2)
     (case side4 => exact (Kd.R_reads' HO658.out).2.1)
     rintro e w39 ⟨v660, rfl, ho0, hb⟩
     refine ⟨_, rfl, ?_⟩
     have n0_ := Aside0.mk (Kd.R_elder' HO655.out (Kd.R_base ho0) hb)
     have n1_ := Aside0.mk (Kd.R_elder' HO658.out (Kd.R_base ho0) hb)
     have n2_ := Aside0.mk (Kd.R_lower (Kd.R_new' (Kd.R_new' ho0 (Kd.R_lt HO655.out)) (Kd.R_lt HO658.out)) (below_size HB.out))
     have n3_ := Aside0.mk (blk_below BK649.out hb)
     have n4_ := Aside0.mk (blk_below BK650.out hb)
     have n5_ := Aside0.mk (blk_below BK663.out hb)
     have n6_ := Aside0.mk (below_step HB.out hb)
     revert n0_ n1_ n2_ n3_ n4_ n5_ n6_
     clear HO655 HO658 BK649 BK650 BK663 HB
     intro HO655 HO658 HO661 BK649 BK650 BK663 HB
     (try clear hb)
     (try clear hb2)
     (try clear hk)
     (try clear hi)
     (try clear ho0)
     refine hK.out _ _ ⟨(blk_cell BK649.out 0).trans rfl, (blk_cell BK650.out 0).trans rfl⟩ (fun hHeld => ?_)
     clear hK K
     refine norm_ (a' := ?_) ?_ ?_
     rotate_left
     ·show Act.put _ (some 32) _ = _
      simp only [Act.put, List.setIfInBounds_toArray, List.set_cons_zero, List.set_cons_succ, i64_w, i32_w]
      rfl
     refine pure_ (i := 5) (N := some 27) (v := ?_) (a' := ?_) #[true, true, true, true, true, true, false, false, true, false, false] rfl rfl (any_of HT_.out (by kernel_rfl)) (fun _ _ _ h => h) (Or.inl ⟨by rfl, ?_⟩) ?_ ?_
     rotate_left
     ·intro w'
      go_simp
      with_reducible rfl
     rotate_left
     ·simp only [Act.put, List.setIfInBounds_toArray, List.set_cons_zero, List.set_cons_succ, i64_w, i32_w]
      rfl
     refine pure_ (i := 6) (N := some 33) (v := ?_) (a' := ?_) #[true, true, true, true, true, true, true, false, true, false, false] rfl rfl (any_of HT_.out (by kernel_rfl)) (fun _ _ _ h => h) (Or.inl ⟨by rfl, ?_⟩) ?_ ?_
     rotate_left
     ·intro w'
      go_simp
      with_reducible rfl
     rotate_left
     ·simp only [Act.put, List.setIfInBounds_toArray, List.set_cons_zero, List.set_cons_succ, i64_w, i32_w]
      rfl
     refine pure_ (i := 7) (N := some 34) (v := ?_) (a' := ?_) #[true, true, true, true, true, true, true, true, true, false, false] rfl rfl (any_of HT_.out (by kernel_rfl)) (fun _ _ _ h => h) (Or.inl ⟨by rfl, ?_⟩) ?_ ?_
     rotate_left
     ·intro w'
      go_simp
      with_reducible rfl
     rotate_left
     ·simp only [Act.put, List.setIfInBounds_toArray, List.set_cons_zero, List.set_cons_succ, i64_w, i32_w]
      rfl
     exact norm_ (by simp only [putAll, Act.put, List.setIfInBounds_toArray, List.set_cons_zero, List.set_cons_succ]) (hCont (.slice Ao37 t653.length co37, .slice Ao38 t656.length co38, v660, gb663) _ ⟨hHeld, (Kd.R_mono HO655.out (fun _ hk => ⟨hk.1.2, hk.2⟩)), (Kd.R_mono HO658.out (fun _ hk => ⟨hk.1.2, hk.2⟩)), (Kd.R_mono HO661.out (fun _ hk => ⟨hk.1.2, hk.2⟩)), BK649.out, BK650.out, BK663.out, GW663.out, GE663.out, NB649_663.out, NB663_649.out, NB650_663.out, NB663_650.out, HB.out⟩)
   rintro ⟨v654, v657, v660, gb663⟩ w40 ⟨hS_, h0_, h1_, h2_, h3_, h4_, h5_, h6_, h7_, h8_, h9_, h10_, h11_, h12_⟩
   have n0_ : Aside0 (Kd.R k76 76 w40 w.heap.size (fun k_ => some k_ ≠ (v657 : Value).ownBlock ∧ some k_ ≠ (v660 : Value).ownBlock) v654 t653) := ⟨h0_⟩
   have n1_ : Aside0 (Kd.R k76 76 w40 w.heap.size (fun k_ => some k_ ≠ (v654 : Value).ownBlock ∧ some k_ ≠ (v660 : Value).ownBlock) v657 t656) := ⟨h1_⟩
   have n2_ : Aside0 (Kd.R k76 76 w40 w.heap.size (fun k_ => some k_ ≠ (v654 : Value).ownBlock ∧ some k_ ≠ (v657 : Value).ownBlock) v660 t659) := ⟨h2_⟩
   have n3_ : Aside0 (w40.heap[gb649]? = some (.cells #[.slice A0_0 l0_0.length c0_0] 36 (0, 0))) := ⟨h3_⟩
   have n4_ : Aside0 (w40.heap[gb650]? = some (.cells #[.slice A1_0 l1_0.length c1_0] 36 (0, 0))) := ⟨h4_⟩
   have n5_ : Aside0 (w40.heap[gb663]? = some (.cells #[.slice none 0 0] 26 (0, 0))) := ⟨h5_⟩
   have n6_ : Aside0 (w.heap.size ≤ gb663) := ⟨h6_⟩
   have n7_ : Aside0 (w.heap.size ≤ gb663) := ⟨h7_⟩
   have n8_ : Aside0 (gb649 ≠ gb663) := ⟨h8_⟩
   have n9_ : Aside0 (gb663 ≠ gb649) := ⟨h9_⟩
   have n10_ : Aside0 (gb650 ≠ gb663) := ⟨h10_⟩
   have n11_ : Aside0 (gb663 ≠ gb650) := ⟨h11_⟩
   have n12_ : Aside0 (Below w.heap.size w w40) := ⟨h12_⟩
   clear BK649
   clear BK650
   clear HB
   clear h0_ h1_ h2_ h3_ h4_ h5_ h6_ h7_ h8_ h9_ h10_ h11_ h12_
   have HO655 := n0_
   have HO658 := n1_
   have HO661 := n2_
   have BK649 := n3_
   have BK650 := n4_
   have BK663 := n5_
   have GW663 := n6_
   have GE663 := n7_
   have NB649_663 := n8_
   have NB663_649 := n9_
   have NB650_663 := n10_
   have NB663_650 := n11_
   have HB := n12_
   clear n0_ n1_ n2_ n3_ n4_ n5_ n6_ n7_ n8_ n9_ n10_ n11_ n12_
   have hHeld : w40.cell? ⟨gb649, 0, none⟩ = some (.slice A0_0 l0_0.length c0_0) ∧ w40.cell? ⟨gb650, 0, none⟩ = some (.slice A1_0 l1_0.length c1_0) := hS_
   obtain ⟨Ao41, co41, eo41⟩ := Kd.R_slice HO661.out
   (first | subst eo41 | (injection eo41 with f1_ f2_ f3_; have f4_ := f1_.symm; have f5_ := f3_.symm; clear f1_ f2_ f3_; subst f4_; subst f5_))
   refine norm_ (a' := ?_) ?_ ?_
   rotate_left
   ·simp only [putAll, Act.put, List.setIfInBounds_toArray, List.set_cons_zero, List.set_cons_succ]
    rfl
   refine one_ (i := 9) (N := none) #[true, true, true, true, true, true, true, true, true, true, false] rfl rfl (one_of HT_.out (by kernel_rfl)) (by decide) (fun K hK => ?_)
   have hs42 : w40.cell? ⟨gb663, 0, none⟩ = some (.slice none 0 0) := (blk_cell BK663.out 0).trans rfl
   have hfs42 := blk_frozen BK663.out 0
   have hns42_0 := NB649_663.out
   have hns42_1 := NB650_663.out
   have hms42_0 := NB663_649.out
   have hms42_1 := NB663_650.out
   refine skip_ (w1 := ?_) (by rfl) rfl ?_ ?_
   rotate_left
   ·go_simp
    rfl
   refine hK.out _ _ ⟨((cell_far (p := ⟨gb663, _, none⟩) NB649_663.out _).trans (hHeld.1)), ((cell_far (p := ⟨gb663, _, none⟩) NB650_663.out _).trans (hHeld.2))⟩ (fun hHeld => ?_)
   clear hK K
   refine pure_ (i := 10) (N := some 7) (v := ?_) (a' := ?_) #[true, true, true, true, true, true, true, true, true, true, true] rfl rfl (any_of HT_.out (by kernel_rfl)) (fun _ _ _ h => h) (Or.inl ⟨by rfl, ?_⟩) ?_ ?_
   rotate_left
   ·intro w'
    go_simp
    with_reducible rfl
   rotate_left
   ·simp only [Act.put, List.setIfInBounds_toArray, List.set_cons_zero, List.set_cons_succ, i64_w, i32_w]
    rfl
   refine done_ (done_of HT_.out (by kernel_rfl)) ?_
   have hnb43 := NB649_663.out
   have hnc43 := NB663_649.out
   have hcz44_0 : w40.cell? ⟨gb649, 0, none⟩ = some (.slice A0_0 l0_0.length c0_0) := (blk_cell BK649.out 0).trans rfl
   have hfz44_0 := blk_frozen BK649.out 0
   go_upto_region 12 with (first | ((with_reducible refine gate_callee (f := 23) rfl ?_); refine goesL_ (some 36) rfl rfl Tryd.func23 (by kernel_rfl) rfl #[.agg #[.slice A0_0 l0_0.length c0_0]] rfl (by (try simp only [List.map_toArray, List.map_cons, List.map_nil]); first | done | rfl | (simp only [List.length_drop, List.length_take]; rfl)) ?_; (with_reducible refine (laws_toTrie.calls k _ _ l0_0 t664 _ ?side1 ?side2 A22.out).mono ?_); (case side1 => exact Kd.C_below HR0_0.out (by repeat (first | (with_reducible first | exact HB.out | apply below_alloc | apply pw_below_drewN | apply below_drew1 | refine below_set ?_ GE649.out | refine below_set ?_ GE650.out | refine below_set ?_ GE663.out) | exact HB.out))); (case side2 => exact HC0_0.out); rintro e w45 ⟨v665, rfl, ho0, hb⟩; refine ⟨_, rfl, ?_⟩; have n0_ := Aside0.mk (Kd.R_elder' (by (with_reducible repeat (first | apply Kd.R_alloc | apply Kd.R_drewN | apply Kd.R_drew)); exact (Kd.R_mono (R_same_ (Kd.R_far (p := ⟨gb663, 0, none⟩) (Kd.R_types HO655.out BK663.out (by decide)) (fun _ hk => hk.2) (.slice Ao41 t659.length co41)) rfl) (fun _ h_ => h_.1))) (Kd.R_base ho0) hb); have n1_ := Aside0.mk (Kd.R_elder' (by (with_reducible repeat (first | apply Kd.R_alloc | apply Kd.R_drewN | apply Kd.R_drew)); exact (Kd.R_mono (R_same_ (Kd.R_far (p := ⟨gb663, 0, none⟩) (Kd.R_types HO658.out BK663.out (by decide)) (fun _ hk => hk.2) (.slice Ao41 t659.length co41)) rfl) (fun _ h_ => h_.1))) (Kd.R_base ho0) hb); have n2_ := Aside0.mk (Kd.R_elder' (by (with_reducible repeat (first | apply Kd.R_alloc | apply Kd.R_drewN | apply Kd.R_drew)); exact (Kd.R_mono (R_same_ (Kd.R_far (p := ⟨gb663, 0, none⟩) (Kd.R_types HO661.out BK663.out (by decide)) (fun _ hk => hk.2) (.slice Ao41 t659.length co41)) rfl) (fun _ h_ => h_.1))) (Kd.R_base ho0) hb); have n3_ := Aside0.mk (Kd.R_lower (Kd.R_new' (Kd.R_new' (Kd.R_new' ho0 (Kd.R_lt (by (with_reducible repeat (first | apply Kd.R_alloc | apply Kd.R_drewN | apply Kd.R_drew)); exact (Kd.R_mono (R_same_ (Kd.R_far (p := ⟨gb663, 0, none⟩) (Kd.R_types HO655.out BK663.out (by decide)) (fun _ hk => hk.2) (.slice Ao41 t659.length co41)) rfl) (fun _ h_ => h_.1))))) (Kd.R_lt (by (with_reducible repeat (first | apply Kd.R_alloc | apply Kd.R_drewN | apply Kd.R_drew)); exact (Kd.R_mono (R_same_ (Kd.R_far (p := ⟨gb663, 0, none⟩) (Kd.R_types HO658.out BK663.out (by decide)) (fun _ hk => hk.2) (.slice Ao41 t659.length co41)) rfl) (fun _ h_ => h_.1))))) (Kd.R_lt (by (with_reducible repeat (first | apply Kd.R_alloc | apply Kd.R_drewN | apply Kd.R_drew)); exact (Kd.R_mono (R_same_ (Kd.R_far (p := ⟨gb663, 0, none⟩) (Kd.R_types HO661.out BK663.out (by decide)) (fun _ hk => hk.2) (.slice Ao41 t659.length co41)) rfl) (fun _ h_ => h_.1))))) (below_size (by repeat (first | (with_reducible first | exact HB.out | apply below_alloc | apply pw_below_drewN | apply below_drew1 | refine below_set ?_ GE649.out | refine below_set ?_ GE650.out | refine below_set ?_ GE663.out) | exact HB.out)))); have n4_ := Aside0.mk (blk_below (g := gb649) (o := .cells #[.slice A0_0 l0_0.length c0_0] 36 (0, 0)) (by (with_reducible repeat (first | refine blk_drewN ?_ _ | refine blk_drew ?_ | refine blk_alloc ?_ _)); refine blk_far ?_ NB649_663.out _; (with_reducible repeat (first | refine blk_drewN ?_ _ | refine blk_drew ?_ | refine blk_alloc ?_ _)); exact BK649.out) hb); have n5_ := Aside0.mk (blk_below (g := gb650) (o := .cells #[.slice A1_0 l1_0.length c1_0] 36 (0, 0)) (by (with_reducible repeat (first | refine blk_drewN ?_ _ | refine blk_drew ?_ | refine blk_alloc ?_ _)); refine blk_far ?_ NB650_663.out _; (with_reducible repeat (first | refine blk_drewN ?_ _ | refine blk_drew ?_ | refine blk_alloc ?_ _)); exact BK650.out) hb); have n6_ := Aside0.mk (blk_below (g := gb663) (o := .cells #[.slice Ao41 t659.length co41] 26 (0, 0)) (by (with_reducible repeat (first | refine blk_drewN ?_ _ | refine blk_drew ?_ | refine blk_alloc ?_ _)); refine blk_put (cs := #[.slice none 0 0]) ?_ 0 _ rfl; (with_reducible repeat (first | refine blk_drewN ?_ _ | refine blk_drew ?_ | refine blk_alloc ?_ _)); exact BK663.out) hb); have n7_ := Aside0.mk (below_step (by repeat (first | (with_reducible first | exact HB.out | apply below_alloc | apply pw_below_drewN | apply below_drew1 | refine below_set ?_ GE649.out | refine below_set ?_ GE650.out | refine below_set ?_ GE663.out) | exact HB.out)) hb); clear HO655; clear HO658; clear HO661; clear BK649; clear BK650; clear BK663; clear HB; have HO655 := n0_; have HO658 := n1_; have HO661 := n2_; have HO666 := n3_; have BK649 := n4_; have BK650 := n5_; have BK663 := n6_; have HB := n7_; clear n0_ n1_ n2_ n3_ n4_ n5_ n6_ n7_; (try clear hb); (try clear hb2); (try clear hk); (try clear hi); (try clear ho0)) | ((with_reducible refine gate_dst (N := 8) rfl ?_); refine box_event ?hg (N := 8) ?hd (cs := #[.slice none 0 0]) (t := 26) ?hr ?_; (case hd => rfl); (case hg => rfl); (case hr => first | (go_simp; done) | (go_simp; rfl)); intro gb667 hg w46 hbox hb; have n0_ := Aside0.mk (Kd.R_below (by (with_reducible repeat (first | apply Kd.R_alloc | apply Kd.R_drewN | apply Kd.R_drew)); exact HO655.out) hb); have n1_ := Aside0.mk (Kd.R_below (by (with_reducible repeat (first | apply Kd.R_alloc | apply Kd.R_drewN | apply Kd.R_drew)); exact HO658.out) hb); have n2_ := Aside0.mk (Kd.R_below (by (with_reducible repeat (first | apply Kd.R_alloc | apply Kd.R_drewN | apply Kd.R_drew)); exact HO661.out) hb); have n3_ := Aside0.mk (Kd.R_below (by (with_reducible repeat (first | apply Kd.R_alloc | apply Kd.R_drewN | apply Kd.R_drew)); exact HO666.out) hb); have n4_ := Aside0.mk (blk_below (g := gb649) (o := .cells #[.slice A0_0 l0_0.length c0_0] 36 (0, 0)) (by (with_reducible repeat (first | refine blk_drewN ?_ _ | refine blk_drew ?_ | refine blk_alloc ?_ _)); exact BK649.out) hb); have n5_ := Aside0.mk (blk_below (g := gb650) (o := .cells #[.slice A1_0 l1_0.length c1_0] 36 (0, 0)) (by (with_reducible repeat (first | refine blk_drewN ?_ _ | refine blk_drew ?_ | refine blk_alloc ?_ _)); exact BK650.out) hb); have n6_ := Aside0.mk (blk_below (g := gb663) (o := .cells #[.slice Ao41 t659.length co41] 26 (0, 0)) (by (with_reducible repeat (first | refine blk_drewN ?_ _ | refine blk_drew ?_ | refine blk_alloc ?_ _)); exact BK663.out) hb); have n7_ := Aside0.mk (below_step (by repeat (first | (with_reducible first | exact HB.out | apply below_alloc | apply pw_below_drewN | apply below_drew1 | refine below_set ?_ GE649.out | refine below_set ?_ GE650.out | refine below_set ?_ GE663.out) | exact HB.out)) hb); have n8_ := Aside0.mk (hbox); have n9_ := Aside0.mk ((by rw [hg]; exact (below_size (by repeat (first | (with_reducible first | exact HB.out | apply below_alloc | apply pw_below_drewN | apply below_drew1 | refine below_set ?_ GE649.out | refine below_set ?_ GE650.out | refine below_set ?_ GE663.out) | exact HB.out))) : w.heap.size ≤ gb667)); have n10_ := Aside0.mk ((by rw [hg]; exact (below_size (by repeat (first | (with_reducible first | exact HB.out | apply below_alloc | apply pw_below_drewN | apply below_drew1 | refine below_set ?_ GE649.out | refine below_set ?_ GE650.out | refine below_set ?_ GE663.out) | exact HB.out))) : w.heap.size ≤ gb667)); have n11_ := Aside0.mk ((by rw [hg]; exact Nat.ne_of_lt (blk_lt (g := gb649) (o := .cells #[.slice A0_0 l0_0.length c0_0] 36 (0, 0)) (by (with_reducible repeat (first | refine blk_drewN ?_ _ | refine blk_drew ?_ | refine blk_alloc ?_ _)); exact BK649.out)) : gb649 ≠ gb667)); have n12_ := Aside0.mk ((by rw [hg]; exact Nat.ne_of_gt (blk_lt (g := gb649) (o := .cells #[.slice A0_0 l0_0.length c0_0] 36 (0, 0)) (by (with_reducible repeat (first | refine blk_drewN ?_ _ | refine blk_drew ?_ | refine blk_alloc ?_ _)); exact BK649.out)) : gb667 ≠ gb649)); have n13_ := Aside0.mk ((by rw [hg]; exact Nat.ne_of_lt (blk_lt (g := gb650) (o := .cells #[.slice A1_0 l1_0.length c1_0] 36 (0, 0)) (by (with_reducible repeat (first | refine blk_drewN ?_ _ | refine blk_drew ?_ | refine blk_alloc ?_ _)); exact BK650.out)) : gb650 ≠ gb667)); have n14_ := Aside0.mk ((by rw [hg]; exact Nat.ne_of_gt (blk_lt (g := gb650) (o := .cells #[.slice A1_0 l1_0.length c1_0] 36 (0, 0)) (by (with_reducible repeat (first | refine blk_drewN ?_ _ | refine blk_drew ?_ | refine blk_alloc ?_ _)); exact BK650.out)) : gb667 ≠ gb650)); have n15_ := Aside0.mk ((by rw [hg]; exact Nat.ne_of_lt (blk_lt (g := gb663) (o := .cells #[.slice Ao41 t659.length co41] 26 (0, 0)) (by (with_reducible repeat (first | refine blk_drewN ?_ _ | refine blk_drew ?_ | refine blk_alloc ?_ _)); exact BK663.out)) : gb663 ≠ gb667)); have n16_ := Aside0.mk ((by rw [hg]; exact Nat.ne_of_gt (blk_lt (g := gb663) (o := .cells #[.slice Ao41 t659.length co41] 26 (0, 0)) (by (with_reducible repeat (first | refine blk_drewN ?_ _ | refine blk_drew ?_ | refine blk_alloc ?_ _)); exact BK663.out)) : gb667 ≠ gb663)); clear HO655; clear HO658; clear HO661; clear HO666; clear BK649; clear BK650; clear BK663; clear HB; have HO655 := n0_; have HO658 := n1_; have HO661 := n2_; have HO666 := n3_; have BK649 := n4_; have BK650 := n5_; have BK663 := n6_; have HB := n7_; have BK667 := n8_; have GW667 := n9_; have GE667 := n10_; have NB649_667 := n11_; have NB667_649 := n12_; have NB650_667 := n13_; have NB667_650 := n14_; have NB663_667 := n15_; have NB667_663 := n16_; clear n0_ n1_ n2_ n3_ n4_ n5_ n6_ n7_ n8_ n9_ n10_ n11_ n12_ n13_ n14_ n15_ n16_; clear hb hbox hg; obtain ⟨Ao47, co47, eo47⟩ := Kd.R_slice HO666.out; subst eo47; have hnb48 := NB667_649.out; have hnc48 := NB649_667.out; have hnb49 := NB667_650.out; have hnc49 := NB650_667.out; have hnb50 := NB667_663.out; have hnc50 := NB663_667.out; have hcz51_0 : w46.cell? ⟨gb667, 0, none⟩ = some (.slice none 0 0) := (blk_cell BK667.out 0).trans rfl; have hfz51_0 := blk_frozen BK667.out 0; have hnb52 := NB650_663.out; have hnc52 := NB663_650.out; have hcz53_0 : w46.cell? ⟨gb650, 0, none⟩ = some (.slice A1_0 l1_0.length c1_0) := (blk_cell BK650.out 0).trans rfl; have hfz53_0 := blk_frozen BK650.out 0) | ((with_reducible refine gate_callee (f := 23) rfl ?_); refine goesL_ (some 38) rfl rfl Tryd.func23 (by kernel_rfl) rfl #[.agg #[.slice A1_0 l1_0.length c1_0]] rfl (by (try simp only [List.map_toArray, List.map_cons, List.map_nil]); first | done | rfl | (simp only [List.length_drop, List.length_take]; rfl)) ?_; (with_reducible refine (laws_toTrie.calls k _ _ l1_0 t668 _ ?side1 ?side2 A23.out).mono ?_); (case side1 => exact Kd.C_below HR1_0.out (by repeat (first | (with_reducible first | exact HB.out | apply below_alloc | apply pw_below_drewN | apply below_drew1 | refine below_set ?_ GE649.out | refine below_set ?_ GE650.out | refine below_set ?_ GE663.out | refine below_set ?_ GE667.out) | exact HB.out))); (case side2 => exact HC1_0.out); rintro e w54 ⟨v669, rfl, ho0, hb⟩; refine ⟨_, rfl, ?_⟩; have n0_ := Aside0.mk (Kd.R_elder' (by (with_reducible repeat (first | apply Kd.R_alloc | apply Kd.R_drewN | apply Kd.R_drew)); exact (Kd.R_mono (R_same_ (Kd.R_far (p := ⟨gb667, 0, none⟩) (Kd.R_types HO655.out BK667.out (by decide)) (fun _ hk => hk.2) (.slice Ao47 t664.length co47)) rfl) (fun _ h_ => h_.1))) (Kd.R_base ho0) hb); have n1_ := Aside0.mk (Kd.R_elder' (by (with_reducible repeat (first | apply Kd.R_alloc | apply Kd.R_drewN | apply Kd.R_drew)); exact (Kd.R_mono (R_same_ (Kd.R_far (p := ⟨gb667, 0, none⟩) (Kd.R_types HO658.out BK667.out (by decide)) (fun _ hk => hk.2) (.slice Ao47 t664.length co47)) rfl) (fun _ h_ => h_.1))) (Kd.R_base ho0) hb); have n2_ := Aside0.mk (Kd.R_elder' (by (with_reducible repeat (first | apply Kd.R_alloc | apply Kd.R_drewN | apply Kd.R_drew)); exact (Kd.R_mono (R_same_ (Kd.R_far (p := ⟨gb667, 0, none⟩) (Kd.R_types HO661.out BK667.out (by decide)) (fun _ hk => hk.2) (.slice Ao47 t664.length co47)) rfl) (fun _ h_ => h_.1))) (Kd.R_base ho0) hb); have n3_ := Aside0.mk (Kd.R_elder' (by (with_reducible repeat (first | apply Kd.R_alloc | apply Kd.R_drewN | apply Kd.R_drew)); exact (Kd.R_mono (R_same_ (Kd.R_far (p := ⟨gb667, 0, none⟩) (Kd.R_types HO666.out BK667.out (by decide)) (fun _ hk => hk.2) (.slice Ao47 t664.length co47)) rfl) (fun _ h_ => h_.1))) (Kd.R_base ho0) hb); have n4_ := Aside0.mk (Kd.R_lower (Kd.R_new' (Kd.R_new' (Kd.R_new' (Kd.R_new' ho0 (Kd.R_lt (by (with_reducible repeat (first | apply Kd.R_alloc | apply Kd.R_drewN | apply Kd.R_drew)); exact (Kd.R_mono (R_same_ (Kd.R_far (p := ⟨gb667, 0, none⟩) (Kd.R_types HO655.out BK667.out (by decide)) (fun _ hk => hk.2) (.slice Ao47 t664.length co47)) rfl) (fun _ h_ => h_.1))))) (Kd.R_lt (by (with_reducible repeat (first | apply Kd.R_alloc | apply Kd.R_drewN | apply Kd.R_drew)); exact (Kd.R_mono (R_same_ (Kd.R_far (p := ⟨gb667, 0, none⟩) (Kd.R_types HO658.out BK667.out (by decide)) (fun _ hk => hk.2) (.slice Ao47 t664.length co47)) rfl) (fun _ h_ => h_.1))))) (Kd.R_lt (by (with_reducible repeat (first | apply Kd.R_alloc | apply Kd.R_drewN | apply Kd.R_drew)); exact (Kd.R_mono (R_same_ (Kd.R_far (p := ⟨gb667, 0, none⟩) (Kd.R_types HO661.out BK667.out (by decide)) (fun _ hk => hk.2) (.slice Ao47 t664.length co47)) rfl) (fun _ h_ => h_.1))))) (Kd.R_lt (by (with_reducible repeat (first | apply Kd.R_alloc | apply Kd.R_drewN | apply Kd.R_drew)); exact (Kd.R_mono (R_same_ (Kd.R_far (p := ⟨gb667, 0, none⟩) (Kd.R_types HO666.out BK667.out (by decide)) (fun _ hk => hk.2) (.slice Ao47 t664.length co47)) rfl) (fun _ h_ => h_.1))))) (below_size (by repeat (first | (with_reducible first | exact HB.out | apply below_alloc | apply pw_below_drewN | apply below_drew1 | refine below_set ?_ GE649.out | refine below_set ?_ GE650.out | refine below_set ?_ GE663.out | refine below_set ?_ GE667.out) | exact HB.out)))); have n5_ := Aside0.mk (blk_below (g := gb649) (o := .cells #[.slice A0_0 l0_0.length c0_0] 36 (0, 0)) (by (with_reducible repeat (first | refine blk_drewN ?_ _ | refine blk_drew ?_ | refine blk_alloc ?_ _)); refine blk_far ?_ NB649_667.out _; (with_reducible repeat (first | refine blk_drewN ?_ _ | refine blk_drew ?_ | refine blk_alloc ?_ _)); exact BK649.out) hb); have n6_ := Aside0.mk (blk_below (g := gb650) (o := .cells #[.slice A1_0 l1_0.length c1_0] 36 (0, 0)) (by (with_reducible repeat (first | refine blk_drewN ?_ _ | refine blk_drew ?_ | refine blk_alloc ?_ _)); refine blk_far ?_ NB650_667.out _; (with_reducible repeat (first | refine blk_drewN ?_ _ | refine blk_drew ?_ | refine blk_alloc ?_ _)); exact BK650.out) hb); have n7_ := Aside0.mk (blk_below (g := gb663) (o := .cells #[.slice Ao41 t659.length co41] 26 (0, 0)) (by (with_reducible repeat (first | refine blk_drewN ?_ _ | refine blk_drew ?_ | refine blk_alloc ?_ _)); refine blk_far ?_ NB663_667.out _; (with_reducible repeat (first | refine blk_drewN ?_ _ | refine blk_drew ?_ | refine blk_alloc ?_ _)); exact BK663.out) hb); have n8_ := Aside0.mk (blk_below (g := gb667) (o := .cells #[.slice Ao47 t664.length co47] 26 (0, 0)) (by (with_reducible repeat (first | refine blk_drewN ?_ _ | refine blk_drew ?_ | refine blk_alloc ?_ _)); refine blk_put (cs := #[.slice none 0 0]) ?_ 0 _ rfl; (with_reducible repeat (first | refine blk_drewN ?_ _ | refine blk_drew ?_ | refine blk_alloc ?_ _)); exact BK667.out) hb); have n9_ := Aside0.mk (below_step (by repeat (first | (with_reducible first | exact HB.out | apply below_alloc | apply pw_below_drewN | apply below_drew1 | refine below_set ?_ GE649.out | refine below_set ?_ GE650.out | refine below_set ?_ GE663.out | refine below_set ?_ GE667.out) | exact HB.out)) hb); clear HO655; clear HO658; clear HO661; clear HO666; clear BK649; clear BK650; clear BK663; clear BK667; clear HB; have HO655 := n0_; have HO658 := n1_; have HO661 := n2_; have HO666 := n3_; have HO670 := n4_; have BK649 := n5_; have BK650 := n6_; have BK663 := n7_; have BK667 := n8_; have HB := n9_; clear n0_ n1_ n2_ n3_ n4_ n5_ n6_ n7_ n8_ n9_; (try clear hb); (try clear hb2); (try clear hk); (try clear hi); (try clear ho0)) | ((with_reducible refine gate_dst (N := 9) rfl ?_); refine box_event ?hg (N := 9) ?hd (cs := #[.slice none 0 0]) (t := 26) ?hr ?_; (case hd => rfl); (case hg => rfl); (case hr => first | (go_simp; done) | (go_simp; rfl)); intro gb671 hg w55 hbox hb; have n0_ := Aside0.mk (Kd.R_below (by (with_reducible repeat (first | apply Kd.R_alloc | apply Kd.R_drewN | apply Kd.R_drew)); exact HO655.out) hb); have n1_ := Aside0.mk (Kd.R_below (by (with_reducible repeat (first | apply Kd.R_alloc | apply Kd.R_drewN | apply Kd.R_drew)); exact HO658.out) hb); have n2_ := Aside0.mk (Kd.R_below (by (with_reducible repeat (first | apply Kd.R_alloc | apply Kd.R_drewN | apply Kd.R_drew)); exact HO661.out) hb); have n3_ := Aside0.mk (Kd.R_below (by (with_reducible repeat (first | apply Kd.R_alloc | apply Kd.R_drewN | apply Kd.R_drew)); exact HO666.out) hb); have n4_ := Aside0.mk (Kd.R_below (by (with_reducible repeat (first | apply Kd.R_alloc | apply Kd.R_drewN | apply Kd.R_drew)); exact HO670.out) hb); have n5_ := Aside0.mk (blk_below (g := gb649) (o := .cells #[.slice A0_0 l0_0.length c0_0] 36 (0, 0)) (by (with_reducible repeat (first | refine blk_drewN ?_ _ | refine blk_drew ?_ | refine blk_alloc ?_ _)); exact BK649.out) hb); have n6_ := Aside0.mk (blk_below (g := gb650) (o := .cells #[.slice A1_0 l1_0.length c1_0] 36 (0, 0)) (by (with_reducible repeat (first | refine blk_drewN ?_ _ | refine blk_drew ?_ | refine blk_alloc ?_ _)); exact BK650.out) hb); have n7_ := Aside0.mk (blk_below (g := gb663) (o := .cells #[.slice Ao41 t659.length co41] 26 (0, 0)) (by (with_reducible repeat (first | refine blk_drewN ?_ _ | refine blk_drew ?_ | refine blk_alloc ?_ _)); exact BK663.out) hb); have n8_ := Aside0.mk (blk_below (g := gb667) (o := .cells #[.slice Ao47 t664.length co47] 26 (0, 0)) (by (with_reducible repeat (first | refine blk_drewN ?_ _ | refine blk_drew ?_ | refine blk_alloc ?_ _)); exact BK667.out) hb); have n9_ := Aside0.mk (below_step (by repeat (first | (with_reducible first | exact HB.out | apply below_alloc | apply pw_below_drewN | apply below_drew1 | refine below_set ?_ GE649.out | refine below_set ?_ GE650.out | refine below_set ?_ GE663.out | refine below_set ?_ GE667.out) | exact HB.out)) hb); have n10_ := Aside0.mk (hbox); have n11_ := Aside0.mk ((by rw [hg]; exact (below_size (by repeat (first | (with_reducible first | exact HB.out | apply below_alloc | apply pw_below_drewN | apply below_drew1 | refine below_set ?_ GE649.out | refine below_set ?_ GE650.out | refine below_set ?_ GE663.out | refine below_set ?_ GE667.out) | exact HB.out))) : w.heap.size ≤ gb671)); have n12_ := Aside0.mk ((by rw [hg]; exact (below_size (by repeat (first | (with_reducible first | exact HB.out | apply below_alloc | apply pw_below_drewN | apply below_drew1 | refine below_set ?_ GE649.out | refine below_set ?_ GE650.out | refine below_set ?_ GE663.out | refine below_set ?_ GE667.out) | exact HB.out))) : w.heap.size ≤ gb671)); have n13_ := Aside0.mk ((by rw [hg]; exact Nat.ne_of_lt (blk_lt (g := gb649) (o := .cells #[.slice A0_0 l0_0.length c0_0] 36 (0, 0)) (by (with_reducible repeat (first | refine blk_drewN ?_ _ | refine blk_drew ?_ | refine blk_alloc ?_ _)); exact BK649.out)) : gb649 ≠ gb671)); have n14_ := Aside0.mk ((by rw [hg]; exact Nat.ne_of_gt (blk_lt (g := gb649) (o := .cells #[.slice A0_0 l0_0.length c0_0] 36 (0, 0)) (by (with_reducible repeat (first | refine blk_drewN ?_ _ | refine blk_drew ?_ | refine blk_alloc ?_ _)); exact BK649.out)) : gb671 ≠ gb649)); have n15_ := Aside0.mk ((by rw [hg]; exact Nat.ne_of_lt (blk_lt (g := gb650) (o := .cells #[.slice A1_0 l1_0.length c1_0] 36 (0, 0)) (by (with_reducible repeat (first | refine blk_drewN ?_ _ | refine blk_drew ?_ | refine blk_alloc ?_ _)); exact BK650.out)) : gb650 ≠ gb671)); have n16_ := Aside0.mk ((by rw [hg]; exact Nat.ne_of_gt (blk_lt (g := gb650) (o := .cells #[.slice A1_0 l1_0.length c1_0] 36 (0, 0)) (by (with_reducible repeat (first | refine blk_drewN ?_ _ | refine blk_drew ?_ | refine blk_alloc ?_ _)); exact BK650.out)) : gb671 ≠ gb650)); have n17_ := Aside0.mk ((by rw [hg]; exact Nat.ne_of_lt (blk_lt (g := gb663) (o := .cells #[.slice Ao41 t659.length co41] 26 (0, 0)) (by (with_reducible repeat (first | refine blk_drewN ?_ _ | refine blk_drew ?_ | refine blk_alloc ?_ _)); exact BK663.out)) : gb663 ≠ gb671)); have n18_ := Aside0.mk ((by rw [hg]; exact Nat.ne_of_gt (blk_lt (g := gb663) (o := .cells #[.slice Ao41 t659.length co41] 26 (0, 0)) (by (with_reducible repeat (first | refine blk_drewN ?_ _ | refine blk_drew ?_ | refine blk_alloc ?_ _)); exact BK663.out)) : gb671 ≠ gb663)); have n19_ := Aside0.mk ((by rw [hg]; exact Nat.ne_of_lt (blk_lt (g := gb667) (o := .cells #[.slice Ao47 t664.length co47] 26 (0, 0)) (by (with_reducible repeat (first | refine blk_drewN ?_ _ | refine blk_drew ?_ | refine blk_alloc ?_ _)); exact BK667.out)) : gb667 ≠ gb671)); have n20_ := Aside0.mk ((by rw [hg]; exact Nat.ne_of_gt (blk_lt (g := gb667) (o := .cells #[.slice Ao47 t664.length co47] 26 (0, 0)) (by (with_reducible repeat (first | refine blk_drewN ?_ _ | refine blk_drew ?_ | refine blk_alloc ?_ _)); exact BK667.out)) : gb671 ≠ gb667)); clear HO655; clear HO658; clear HO661; clear HO666; clear HO670; clear BK649; clear BK650; clear BK663; clear BK667; clear HB; have HO655 := n0_; have HO658 := n1_; have HO661 := n2_; have HO666 := n3_; have HO670 := n4_; have BK649 := n5_; have BK650 := n6_; have BK663 := n7_; have BK667 := n8_; have HB := n9_; have BK671 := n10_; have GW671 := n11_; have GE671 := n12_; have NB649_671 := n13_; have NB671_649 := n14_; have NB650_671 := n15_; have NB671_650 := n16_; have NB663_671 := n17_; have NB671_663 := n18_; have NB667_671 := n19_; have NB671_667 := n20_; clear n0_ n1_ n2_ n3_ n4_ n5_ n6_ n7_ n8_ n9_ n10_ n11_ n12_ n13_ n14_ n15_ n16_ n17_ n18_ n19_ n20_; clear hb hbox hg; obtain ⟨Ao56, co56, eo56⟩ := Kd.R_slice HO670.out; subst eo56; have hnb57 := NB671_649.out; have hnc57 := NB649_671.out; have hnb58 := NB671_650.out; have hnc58 := NB650_671.out; have hnb59 := NB671_663.out; have hnc59 := NB663_671.out; have hnb60 := NB671_667.out; have hnc60 := NB667_671.out; have hcz61_0 : w55.cell? ⟨gb671, 0, none⟩ = some (.slice none 0 0) := (blk_cell BK671.out 0).trans rfl; have hfz61_0 := blk_frozen BK671.out 0; have hcz62_0 : w55.cell? ⟨gb667, 0, none⟩ = some (.slice Ao47 t664.length co47) := (blk_cell BK667.out 0).trans rfl; have hfz62_0 := blk_frozen BK667.out 0) | ((with_reducible refine gate_callee (f := 32) rfl ?_); refine goesL_ (some 42) rfl rfl Tryd.func32 (by kernel_rfl) rfl #[.agg #[.slice Ao47 t664.length co47], .agg #[.slice Ao56 t668.length co56]] rfl (by (try simp only [List.map_toArray, List.map_cons, List.map_nil]); first | done | rfl | (simp only [List.length_drop, List.length_take]; rfl)) ?_; (with_reducible refine (impl_JoinTries.calls k _ _ t664 _ _ t668 t672 t675 _ ?side1 ?side2 ?side3 ?side4 A24.out).mono ?_); (case side1 => refine (Kd.R_reads' (e := 76) (base := w.heap.size) (ok := fun k_ => ((((True ∧ some k_ ≠ (v654 : Value).ownBlock) ∧ some k_ ≠ (v657 : Value).ownBlock) ∧ some k_ ≠ (.slice Ao41 t659.length co41 : Value).ownBlock) ∧ some k_ ≠ (.slice Ao56 t668.length co56 : Value).ownBlock)) (n := t664.length) (c := co47) ?_).2.2; exact (by (with_reducible repeat (first | apply Kd.R_alloc | apply Kd.R_drewN | apply Kd.R_drew)); exact (Kd.R_mono (R_same_ (Kd.R_far (p := ⟨gb671, 0, none⟩) (Kd.R_types HO666.out BK671.out (by decide)) (fun _ hk => hk.2) (.slice Ao56 t668.length co56)) rfl) (fun _ h_ => h_.1)))); (case side2 => exact (Kd.R_reads' HO666.out).2.1); (case side3 => refine (Kd.R_reads' (e := 76) (base := w.heap.size) (ok := fun k_ => ((((True ∧ some k_ ≠ (v654 : Value).ownBlock) ∧ some k_ ≠ (v657 : Value).ownBlock) ∧ some k_ ≠ (.slice Ao41 t659.length co41 : Value).ownBlock) ∧ some k_ ≠ (.slice Ao47 t664.length co47 : Value).ownBlock)) (n := t668.length) (c := co56) ?_).2.2; exact (by (with_reducible repeat (first | apply Kd.R_alloc | apply Kd.R_drewN | apply Kd.R_drew)); exact (Kd.R_mono (R_same_ (Kd.R_far (p := ⟨gb671, 0, none⟩) (Kd.R_types HO670.out BK671.out (by decide)) (fun _ hk => hk.2) (.slice Ao56 t668.length co56)) rfl) (fun _ h_ => h_.1)))); (case side4 => exact (Kd.R_reads' HO670.out).2.1); rintro e w63 ⟨v673, rfl, ho0, hb⟩; refine ⟨_, rfl, ?_⟩; have n0_ := Aside0.mk (Kd.R_elder' (by (with_reducible repeat (first | apply Kd.R_alloc | apply Kd.R_drewN | apply Kd.R_drew)); exact (Kd.R_mono (R_same_ (Kd.R_far (p := ⟨gb671, 0, none⟩) (Kd.R_types HO655.out BK671.out (by decide)) (fun _ hk => hk.2) (.slice Ao56 t668.length co56)) rfl) (fun _ h_ => h_.1))) (Kd.R_base ho0) hb); have n1_ := Aside0.mk (Kd.R_elder' (by (with_reducible repeat (first | apply Kd.R_alloc | apply Kd.R_drewN | apply Kd.R_drew)); exact (Kd.R_mono (R_same_ (Kd.R_far (p := ⟨gb671, 0, none⟩) (Kd.R_types HO658.out BK671.out (by decide)) (fun _ hk => hk.2) (.slice Ao56 t668.length co56)) rfl) (fun _ h_ => h_.1))) (Kd.R_base ho0) hb); have n2_ := Aside0.mk (Kd.R_elder' (by (with_reducible repeat (first | apply Kd.R_alloc | apply Kd.R_drewN | apply Kd.R_drew)); exact (Kd.R_mono (R_same_ (Kd.R_far (p := ⟨gb671, 0, none⟩) (Kd.R_types HO661.out BK671.out (by decide)) (fun _ hk => hk.2) (.slice Ao56 t668.length co56)) rfl) (fun _ h_ => h_.1))) (Kd.R_base ho0) hb); have n3_ := Aside0.mk (Kd.R_elder' (by (with_reducible repeat (first | apply Kd.R_alloc | apply Kd.R_drewN | apply Kd.R_drew)); exact (Kd.R_mono (R_same_ (Kd.R_far (p := ⟨gb671, 0, none⟩) (Kd.R_types HO666.out BK671.out (by decide)) (fun _ hk => hk.2) (.slice Ao56 t668.length co56)) rfl) (fun _ h_ => h_.1))) (Kd.R_base ho0) hb); have n4_ := Aside0.mk (Kd.R_elder' (by (with_reducible repeat (first | apply Kd.R_alloc | apply Kd.R_drewN | apply Kd.R_drew)); exact (Kd.R_mono (R_same_ (Kd.R_far (p := ⟨gb671, 0, none⟩) (Kd.R_types HO670.out BK671.out (by decide)) (fun _ hk => hk.2) (.slice Ao56 t668.length co56)) rfl) (fun _ h_ => h_.1))) (Kd.R_base ho0) hb); have n5_ := Aside0.mk (Kd.R_lower (Kd.R_new' (Kd.R_new' (Kd.R_new' (Kd.R_new' (Kd.R_new' ho0 (Kd.R_lt (by (with_reducible repeat (first | apply Kd.R_alloc | apply Kd.R_drewN | apply Kd.R_drew)); exact (Kd.R_mono (R_same_ (Kd.R_far (p := ⟨gb671, 0, none⟩) (Kd.R_types HO655.out BK671.out (by decide)) (fun _ hk => hk.2) (.slice Ao56 t668.length co56)) rfl) (fun _ h_ => h_.1))))) (Kd.R_lt (by (with_reducible repeat (first | apply Kd.R_alloc | apply Kd.R_drewN | apply Kd.R_drew)); exact (Kd.R_mono (R_same_ (Kd.R_far (p := ⟨gb671, 0, none⟩) (Kd.R_types HO658.out BK671.out (by decide)) (fun _ hk => hk.2) (.slice Ao56 t668.length co56)) rfl) (fun _ h_ => h_.1))))) (Kd.R_lt (by (with_reducible repeat (first | apply Kd.R_alloc | apply Kd.R_drewN | apply Kd.R_drew)); exact (Kd.R_mono (R_same_ (Kd.R_far (p := ⟨gb671, 0, none⟩) (Kd.R_types HO661.out BK671.out (by decide)) (fun _ hk => hk.2) (.slice Ao56 t668.length co56)) rfl) (fun _ h_ => h_.1))))) (Kd.R_lt (by (with_reducible repeat (first | apply Kd.R_alloc | apply Kd.R_drewN | apply Kd.R_drew)); exact (Kd.R_mono (R_same_ (Kd.R_far (p := ⟨gb671, 0, none⟩) (Kd.R_types HO666.out BK671.out (by decide)) (fun _ hk => hk.2) (.slice Ao56 t668.length co56)) rfl) (fun _ h_ => h_.1))))) (Kd.R_lt (by (with_reducible repeat (first | apply Kd.R_alloc | apply Kd.R_drewN | apply Kd.R_drew)); exact (Kd.R_mono (R_same_ (Kd.R_far (p := ⟨gb671, 0, none⟩) (Kd.R_types HO670.out BK671.out (by decide)) (fun _ hk => hk.2) (.slice Ao56 t668.length co56)) rfl) (fun _ h_ => h_.1))))) (below_size (by repeat (first | (with_reducible first | exact HB.out | apply below_alloc | apply pw_below_drewN | apply below_drew1 | refine below_set ?_ GE649.out | refine below_set ?_ GE650.out | refine below_set ?_ GE663.out | refine below_set ?_ GE667.out | refine below_set ?_ GE671.out) | exact HB.out)))); have n6_ := Aside0.mk (blk_below (g := gb649) (o := .cells #[.slice A0_0 l0_0.length c0_0] 36 (0, 0)) (by (with_reducible repeat (first | refine blk_drewN ?_ _ | refine blk_drew ?_ | refine blk_alloc ?_ _)); refine blk_far ?_ NB649_671.out _; (with_reducible repeat (first | refine blk_drewN ?_ _ | refine blk_drew ?_ | refine blk_alloc ?_ _)); exact BK649.out) hb); have n7_ := Aside0.mk (blk_below (g := gb650) (o := .cells #[.slice A1_0 l1_0.length c1_0] 36 (0, 0)) (by (with_reducible repeat (first | refine blk_drewN ?_ _ | refine blk_drew ?_ | refine blk_alloc ?_ _)); refine blk_far ?_ NB650_671.out _; (with_reducible repeat (first | refine blk_drewN ?_ _ | refine blk_drew ?_ | refine blk_alloc ?_ _)); exact BK650.out) hb); have n8_ := Aside0.mk (blk_below (g := gb663) (o := .cells #[.slice Ao41 t659.length co41] 26 (0, 0)) (by (with_reducible repeat (first | refine blk_drewN ?_ _ | refine blk_drew ?_ | refine blk_alloc ?_ _)); refine blk_far ?_ NB663_671.out _; (with_reducible repeat (first | refine blk_drewN ?_ _ | refine blk_drew ?_ | refine blk_alloc ?_ _)); exact BK663.out) hb); have n9_ := Aside0.mk (blk_below (g := gb667) (o := .cells #[.slice Ao47 t664.length co47] 26 (0, 0)) (by (with_reducible repeat (first | refine blk_drewN ?_ _ | refine blk_drew ?_ | refine blk_alloc ?_ _)); refine blk_far ?_ NB667_671.out _; (with_reducible repeat (first | refine blk_drewN ?_ _ | refine blk_drew ?_ | refine blk_alloc ?_ _)); exact BK667.out) hb); have n10_ := Aside0.mk (blk_below (g := gb671) (o := .cells #[.slice Ao56 t668.length co56] 26 (0, 0)) (by (with_reducible repeat (first | refine blk_drewN ?_ _ | refine blk_drew ?_ | refine blk_alloc ?_ _)); refine blk_put (cs := #[.slice none 0 0]) ?_ 0 _ rfl; (with_reducible repeat (first | refine blk_drewN ?_ _ | refine blk_drew ?_ | refine blk_alloc ?_ _)); exact BK671.out) hb); have n11_ := Aside0.mk (below_step (by repeat (first | (with_reducible first | exact HB.out | apply below_alloc | apply pw_below_drewN | apply below_drew1 | refine below_set ?_ GE649.out | refine below_set ?_ GE650.out | refine below_set ?_ GE663.out | refine below_set ?_ GE667.out | refine below_set ?_ GE671.out) | exact HB.out)) hb); clear HO655; clear HO658; clear HO661; clear HO666; clear HO670; clear BK649; clear BK650; clear BK663; clear BK667; clear BK671; clear HB; have HO655 := n0_; have HO658 := n1_; have HO661 := n2_; have HO666 := n3_; have HO670 := n4_; have HO674 := n5_; have BK649 := n6_; have BK650 := n7_; have BK663 := n8_; have BK667 := n9_; have BK671 := n10_; have HB := n11_; clear n0_ n1_ n2_ n3_ n4_ n5_ n6_ n7_ n8_ n9_ n10_ n11_; (try clear hb); (try clear hb2); (try clear hk); (try clear hi); (try clear ho0)) | ((with_reducible refine gate_dst (N := 10) rfl ?_); refine box_event ?hg (N := 10) ?hd (cs := #[.slice none 0 0]) (t := 26) ?hr ?_; (case hd => rfl); (case hg => rfl); (case hr => first | (go_simp; done) | (go_simp; rfl)); intro gb676 hg w64 hbox hb; have n0_ := Aside0.mk (Kd.R_below (by (with_reducible repeat (first | apply Kd.R_alloc | apply Kd.R_drewN | apply Kd.R_drew)); exact HO655.out) hb); have n1_ := Aside0.mk (Kd.R_below (by (with_reducible repeat (first | apply Kd.R_alloc | apply Kd.R_drewN | apply Kd.R_drew)); exact HO658.out) hb); have n2_ := Aside0.mk (Kd.R_below (by (with_reducible repeat (first | apply Kd.R_alloc | apply Kd.R_drewN | apply Kd.R_drew)); exact HO661.out) hb); have n3_ := Aside0.mk (Kd.R_below (by (with_reducible repeat (first | apply Kd.R_alloc | apply Kd.R_drewN | apply Kd.R_drew)); exact HO666.out) hb); have n4_ := Aside0.mk (Kd.R_below (by (with_reducible repeat (first | apply Kd.R_alloc | apply Kd.R_drewN | apply Kd.R_drew)); exact HO670.out) hb); have n5_ := Aside0.mk (Kd.R_below (by (with_reducible repeat (first | apply Kd.R_alloc | apply Kd.R_drewN | apply Kd.R_drew)); exact HO674.out) hb); have n6_ := Aside0.mk (blk_below (g := gb649) (o := .cells #[.slice A0_0 l0_0.length c0_0] 36 (0, 0)) (by (with_reducible repeat (first | refine blk_drewN ?_ _ | refine blk_drew ?_ | refine blk_alloc ?_ _)); exact BK649.out) hb); have n7_ := Aside0.mk (blk_below (g := gb650) (o := .cells #[.slice A1_0 l1_0.length c1_0] 36 (0, 0)) (by (with_reducible repeat (first | refine blk_drewN ?_ _ | refine blk_drew ?_ | refine blk_alloc ?_ _)); exact BK650.out) hb); have n8_ := Aside0.mk (blk_below (g := gb663) (o := .cells #[.slice Ao41 t659.length co41] 26 (0, 0)) (by (with_reducible repeat (first | refine blk_drewN ?_ _ | refine blk_drew ?_ | refine blk_alloc ?_ _)); exact BK663.out) hb); have n9_ := Aside0.mk (blk_below (g := gb667) (o := .cells #[.slice Ao47 t664.length co47] 26 (0, 0)) (by (with_reducible repeat (first | refine blk_drewN ?_ _ | refine blk_drew ?_ | refine blk_alloc ?_ _)); exact BK667.out) hb); have n10_ := Aside0.mk (blk_below (g := gb671) (o := .cells #[.slice Ao56 t668.length co56] 26 (0, 0)) (by (with_reducible repeat (first | refine blk_drewN ?_ _ | refine blk_drew ?_ | refine blk_alloc ?_ _)); exact BK671.out) hb); have n11_ := Aside0.mk (below_step (by repeat (first | (with_reducible first | exact HB.out | apply below_alloc | apply pw_below_drewN | apply below_drew1 | refine below_set ?_ GE649.out | refine below_set ?_ GE650.out | refine below_set ?_ GE663.out | refine below_set ?_ GE667.out | refine below_set ?_ GE671.out) | exact HB.out)) hb); have n12_ := Aside0.mk (hbox); have n13_ := Aside0.mk ((by rw [hg]; exact (below_size (by repeat (first | (with_reducible first | exact HB.out | apply below_alloc | apply pw_below_drewN | apply below_drew1 | refine below_set ?_ GE649.out | refine below_set ?_ GE650.out | refine below_set ?_ GE663.out | refine below_set ?_ GE667.out | refine below_set ?_ GE671.out) | exact HB.out))) : w.heap.size ≤ gb676)); have n14_ := Aside0.mk ((by rw [hg]; exact (below_size (by repeat (first | (with_reducible first | exact HB.out | apply below_alloc | apply pw_below_drewN | apply below_drew1 | refine below_set ?_ GE649.out | refine below_set ?_ GE650.out | refine below_set ?_ GE663.out | refine below_set ?_ GE667.out | refine below_set ?_ GE671.out) | exact HB.out))) : w.heap.size ≤ gb676)); have n15_ := Aside0.mk ((by rw [hg]; exact Nat.ne_of_lt (blk_lt (g := gb649) (o := .cells #[.slice A0_0 l0_0.length c0_0] 36 (0, 0)) (by (with_reducible repeat (first | refine blk_drewN ?_ _ | refine blk_drew ?_ | refine blk_alloc ?_ _)); exact BK649.out)) : gb649 ≠ gb676)); have n16_ := Aside0.mk ((by rw [hg]; exact Nat.ne_of_gt (blk_lt (g := gb649) (o := .cells #[.slice A0_0 l0_0.length c0_0] 36 (0, 0)) (by (with_reducible repeat (first | refine blk_drewN ?_ _ | refine blk_drew ?_ | refine blk_alloc ?_ _)); exact BK649.out)) : gb676 ≠ gb649)); have n17_ := Aside0.mk ((by rw [hg]; exact Nat.ne_of_lt (blk_lt (g := gb650) (o := .cells #[.slice A1_0 l1_0.length c1_0] 36 (0, 0)) (by (with_reducible repeat (first | refine blk_drewN ?_ _ | refine blk_drew ?_ | refine blk_alloc ?_ _)); exact BK650.out)) : gb650 ≠ gb676)); have n18_ := Aside0.mk ((by rw [hg]; exact Nat.ne_of_gt (blk_lt (g := gb650) (o := .cells #[.slice A1_0 l1_0.length c1_0] 36 (0, 0)) (by (with_reducible repeat (first | refine blk_drewN ?_ _ | refine blk_drew ?_ | refine blk_alloc ?_ _)); exact BK650.out)) : gb676 ≠ gb650)); have n19_ := Aside0.mk ((by rw [hg]; exact Nat.ne_of_lt (blk_lt (g := gb663) (o := .cells #[.slice Ao41 t659.length co41] 26 (0, 0)) (by (with_reducible repeat (first | refine blk_drewN ?_ _ | refine blk_drew ?_ | refine blk_alloc ?_ _)); exact BK663.out)) : gb663 ≠ gb676)); have n20_ := Aside0.mk ((by rw [hg]; exact Nat.ne_of_gt (blk_lt (g := gb663) (o := .cells #[.slice Ao41 t659.length co41] 26 (0, 0)) (by (with_reducible repeat (first | refine blk_drewN ?_ _ | refine blk_drew ?_ | refine blk_alloc ?_ _)); exact BK663.out)) : gb676 ≠ gb663)); have n21_ := Aside0.mk ((by rw [hg]; exact Nat.ne_of_lt (blk_lt (g := gb667) (o := .cells #[.slice Ao47 t664.length co47] 26 (0, 0)) (by (with_reducible repeat (first | refine blk_drewN ?_ _ | refine blk_drew ?_ | refine blk_alloc ?_ _)); exact BK667.out)) : gb667 ≠ gb676)); have n22_ := Aside0.mk ((by rw [hg]; exact Nat.ne_of_gt (blk_lt (g := gb667) (o := .cells #[.slice Ao47 t664.length co47] 26 (0, 0)) (by (with_reducible repeat (first | refine blk_drewN ?_ _ | refine blk_drew ?_ | refine blk_alloc ?_ _)); exact BK667.out)) : gb676 ≠ gb667)); have n23_ := Aside0.mk ((by rw [hg]; exact Nat.ne_of_lt (blk_lt (g := gb671) (o := .cells #[.slice Ao56 t668.length co56] 26 (0, 0)) (by (with_reducible repeat (first | refine blk_drewN ?_ _ | refine blk_drew ?_ | refine blk_alloc ?_ _)); exact BK671.out)) : gb671 ≠ gb676)); have n24_ := Aside0.mk ((by rw [hg]; exact Nat.ne_of_gt (blk_lt (g := gb671) (o := .cells #[.slice Ao56 t668.length co56] 26 (0, 0)) (by (with_reducible repeat (first | refine blk_drewN ?_ _ | refine blk_drew ?_ | refine blk_alloc ?_ _)); exact BK671.out)) : gb676 ≠ gb671)); clear HO655; clear HO658; clear HO661; clear HO666; clear HO670; clear HO674; clear BK649; clear BK650; clear BK663; clear BK667; clear BK671; clear HB; have HO655 := n0_; have HO658 := n1_; have HO661 := n2_; have HO666 := n3_; have HO670 := n4_; have HO674 := n5_; have BK649 := n6_; have BK650 := n7_; have BK663 := n8_; have BK667 := n9_; have BK671 := n10_; have HB := n11_; have BK676 := n12_; have GW676 := n13_; have GE676 := n14_; have NB649_676 := n15_; have NB676_649 := n16_; have NB650_676 := n17_; have NB676_650 := n18_; have NB663_676 := n19_; have NB676_663 := n20_; have NB667_676 := n21_; have NB676_667 := n22_; have NB671_676 := n23_; have NB676_671 := n24_; clear n0_ n1_ n2_ n3_ n4_ n5_ n6_ n7_ n8_ n9_ n10_ n11_ n12_ n13_ n14_ n15_ n16_ n17_ n18_ n19_ n20_ n21_ n22_ n23_ n24_; clear hb hbox hg; obtain ⟨Ao65, co65, eo65⟩ := Kd.R_slice HO674.out; subst eo65; have hnb66 := NB676_649.out; have hnc66 := NB649_676.out; have hnb67 := NB676_650.out; have hnc67 := NB650_676.out; have hnb68 := NB676_663.out; have hnc68 := NB663_676.out; have hnb69 := NB676_667.out; have hnc69 := NB667_676.out; have hnb70 := NB676_671.out; have hnc70 := NB671_676.out; have hcz71_0 : w64.cell? ⟨gb676, 0, none⟩ = some (.slice none 0 0) := (blk_cell BK676.out 0).trans rfl; have hfz71_0 := blk_frozen BK676.out 0))
   (try simp only [Act.put, List.setIfInBounds_toArray, List.set_cons_zero, List.set_cons_succ])
   go_cut [53] (fun v53 wc => ∃ (kq : Nat) (x53_24 : Bool), v53 = .bool x53_24 ∧ Aside0 (laws_FnExactJoinTries.j0 kq t662 t675 x53_24 l0_0 l1_0 t659 t664 t668 t672 = some true) ∧ Aside0 (kq ≤ k) ∧ Aside0 (Kd.R k76 76 wc w.heap.size (fun k_ => some k_ ≠ ((.slice Ao47 t664.length co47) : Value).ownBlock ∧ some k_ ≠ ((.slice Ao56 t668.length co56) : Value).ownBlock ∧ some k_ ≠ ((.slice Ao65 t672.length co65) : Value).ownBlock) (.slice Ao41 t659.length co41) t659) ∧ Aside0 (Kd.R k76 76 wc w.heap.size (fun k_ => some k_ ≠ ((.slice Ao41 t659.length co41) : Value).ownBlock ∧ some k_ ≠ ((.slice Ao56 t668.length co56) : Value).ownBlock ∧ some k_ ≠ ((.slice Ao65 t672.length co65) : Value).ownBlock) (.slice Ao47 t664.length co47) t664) ∧ Aside0 (Kd.R k76 76 wc w.heap.size (fun k_ => some k_ ≠ ((.slice Ao41 t659.length co41) : Value).ownBlock ∧ some k_ ≠ ((.slice Ao47 t664.length co47) : Value).ownBlock ∧ some k_ ≠ ((.slice Ao65 t672.length co65) : Value).ownBlock) (.slice Ao56 t668.length co56) t668) ∧ Aside0 (Kd.R k76 76 wc w.heap.size (fun k_ => some k_ ≠ ((.slice Ao41 t659.length co41) : Value).ownBlock ∧ some k_ ≠ ((.slice Ao47 t664.length co47) : Value).ownBlock ∧ some k_ ≠ ((.slice Ao56 t668.length co56) : Value).ownBlock) (.slice Ao65 t672.length co65) t672) ∧ Aside0 (wc.heap[gb649]? = some (.cells #[(.slice A0_0 l0_0.length c0_0)] 36 (0, 0))) ∧ Aside0 (wc.heap[gb650]? = some (.cells #[(.slice A1_0 l1_0.length c1_0)] 36 (0, 0))) ∧ Aside0 (wc.heap[gb663]? = some (.cells #[(.slice Ao41 t659.length co41)] 26 (0, 0))) ∧ Aside0 (wc.heap[gb667]? = some (.cells #[(.slice Ao47 t664.length co47)] 26 (0, 0))) ∧ Aside0 (wc.heap[gb671]? = some (.cells #[(.slice Ao56 t668.length co56)] 26 (0, 0))) ∧ Aside0 (wc.heap[gb676]? = some (.cells #[(.slice Ao65 t672.length co65)] 26 (0, 0))) ∧ Aside0 (Below w.heap.size w wc))
   case first =>
    have H := HC25.out
    clear HC25
    replace H := Option.bind_eq_some_iff.mp H
    obtain ⟨t677, A720, H⟩ := H
    replace H : (if t677 = true then (laws_FnExactJoinTries.j0 k t662 t675 (t675 != t662) l0_0 l1_0 t659 t664 t668 t672) else (laws_FnExactJoinTries.j0 k t662 t675 true l0_0 l1_0 t659 t664 t668 t672)) = some true := H
    have A72 := Aside0.mk A720
    clear A720
    by_cases c73 : t677 = true
    ·subst c73
     have H1 : (laws_FnExactJoinTries.j0 k t662 t675 (t675 != t662) l0_0 l1_0 t659 t664 t668 t672) = some true := by rw [if_pos rfl] at H; exact H
     clear H
     have H := H1
     clear H1
     have H' := Aside0.mk H
     clear H
     have hnb74 := NB676_649.out
     have hnc74 := NB649_676.out
     have hnb75 := NB676_650.out
     have hnc75 := NB650_676.out
     have hnb76 := NB676_663.out
     have hnc76 := NB663_676.out
     have hnb77 := NB676_667.out
     have hnc77 := NB667_676.out
     have hnb78 := NB676_671.out
     have hnc78 := NB671_676.out
     have hcz79_0 : w64.cell? ⟨gb676, 0, none⟩ = some (.slice none 0 0) := (blk_cell BK676.out 0).trans rfl
     have hfz79_0 := blk_frozen BK676.out 0
     have hnb80 := NB663_649.out
     have hnc80 := NB649_663.out
     have hnb81 := NB663_650.out
     have hnc81 := NB650_663.out
     have hnb82 := NB663_667.out
     have hnc82 := NB667_663.out
     have hnb83 := NB663_671.out
     have hnc83 := NB671_663.out
     have hcz84_0 : w64.cell? ⟨gb663, 0, none⟩ = some (.slice Ao41 t659.length co41) := (blk_cell BK663.out 0).trans rfl
     have hfz84_0 := blk_frozen BK663.out 0
     go_wp2_with (first | ((with_reducible refine gate_callee (f := 16) rfl ?_); refine goesL_ (some 47) rfl rfl Tryd.func16 (by kernel_rfl) rfl #[.agg #[.slice Ao65 t672.length co65], .agg #[.slice Ao41 t659.length co41]] rfl (by (try simp only [List.map_toArray, List.map_cons, List.map_nil]); first | done | rfl | (simp only [List.length_drop, List.length_take]; rfl)) ?_; (with_reducible refine (laws_eqTrie.calls k _ _ t672 _ _ t659 true _ ?side1 ?side2 ?side3 ?side4 A72.out).mono ?_); (case side1 => refine (Kd.R_reads' (e := 76) (base := w.heap.size) (ok := fun k_ => (((((True ∧ some k_ ≠ (v654 : Value).ownBlock) ∧ some k_ ≠ (v657 : Value).ownBlock) ∧ some k_ ≠ (.slice Ao41 t659.length co41 : Value).ownBlock) ∧ some k_ ≠ (.slice Ao47 t664.length co47 : Value).ownBlock) ∧ some k_ ≠ (.slice Ao56 t668.length co56 : Value).ownBlock)) (n := t672.length) (c := co65) ?_).2.2; exact (by (with_reducible repeat (first | apply Kd.R_alloc | apply Kd.R_drewN | apply Kd.R_drew)); exact (Kd.R_mono (R_same_ (Kd.R_far (p := ⟨gb676, 0, none⟩) (Kd.R_types HO674.out BK676.out (by decide)) (fun _ hk => hk.2) (.slice Ao65 t672.length co65)) rfl) (fun _ h_ => h_.1)))); (case side2 => exact (Kd.R_reads' HO674.out).2.1); (case side3 => refine (Kd.R_reads' (e := 76) (base := w.heap.size) (ok := fun k_ => ((((some k_ ≠ (v654 : Value).ownBlock ∧ some k_ ≠ (v657 : Value).ownBlock) ∧ some k_ ≠ (.slice Ao47 t664.length co47 : Value).ownBlock) ∧ some k_ ≠ (.slice Ao56 t668.length co56 : Value).ownBlock) ∧ some k_ ≠ (.slice Ao65 t672.length co65 : Value).ownBlock)) (n := t659.length) (c := co41) ?_).2.2; exact (by (with_reducible repeat (first | apply Kd.R_alloc | apply Kd.R_drewN | apply Kd.R_drew)); exact (Kd.R_mono (R_same_ (Kd.R_far (p := ⟨gb676, 0, none⟩) (Kd.R_types HO661.out BK676.out (by decide)) (fun _ hk => hk.2) (.slice Ao65 t672.length co65)) rfl) (fun _ h_ => h_.1)))); (case side4 => exact (Kd.R_reads' HO661.out).2.1); rintro e w85 ⟨rfl, hb⟩; refine ⟨_, rfl, ?_⟩; have n0_ := Aside0.mk (Kd.R_below (by (with_reducible repeat (first | apply Kd.R_alloc | apply Kd.R_drewN | apply Kd.R_drew)); exact (Kd.R_mono (R_same_ (Kd.R_far (p := ⟨gb676, 0, none⟩) (Kd.R_types HO655.out BK676.out (by decide)) (fun _ hk => hk.2) (.slice Ao65 t672.length co65)) rfl) (fun _ h_ => h_.1))) hb); have n1_ := Aside0.mk (Kd.R_below (by (with_reducible repeat (first | apply Kd.R_alloc | apply Kd.R_drewN | apply Kd.R_drew)); exact (Kd.R_mono (R_same_ (Kd.R_far (p := ⟨gb676, 0, none⟩) (Kd.R_types HO658.out BK676.out (by decide)) (fun _ hk => hk.2) (.slice Ao65 t672.length co65)) rfl) (fun _ h_ => h_.1))) hb); have n2_ := Aside0.mk (Kd.R_below (by (with_reducible repeat (first | apply Kd.R_alloc | apply Kd.R_drewN | apply Kd.R_drew)); exact (Kd.R_mono (R_same_ (Kd.R_far (p := ⟨gb676, 0, none⟩) (Kd.R_types HO661.out BK676.out (by decide)) (fun _ hk => hk.2) (.slice Ao65 t672.length co65)) rfl) (fun _ h_ => h_.1))) hb); have n3_ := Aside0.mk (Kd.R_below (by (with_reducible repeat (first | apply Kd.R_alloc | apply Kd.R_drewN | apply Kd.R_drew)); exact (Kd.R_mono (R_same_ (Kd.R_far (p := ⟨gb676, 0, none⟩) (Kd.R_types HO666.out BK676.out (by decide)) (fun _ hk => hk.2) (.slice Ao65 t672.length co65)) rfl) (fun _ h_ => h_.1))) hb); have n4_ := Aside0.mk (Kd.R_below (by (with_reducible repeat (first | apply Kd.R_alloc | apply Kd.R_drewN | apply Kd.R_drew)); exact (Kd.R_mono (R_same_ (Kd.R_far (p := ⟨gb676, 0, none⟩) (Kd.R_types HO670.out BK676.out (by decide)) (fun _ hk => hk.2) (.slice Ao65 t672.length co65)) rfl) (fun _ h_ => h_.1))) hb); have n5_ := Aside0.mk (Kd.R_below (by (with_reducible repeat (first | apply Kd.R_alloc | apply Kd.R_drewN | apply Kd.R_drew)); exact (Kd.R_mono (R_same_ (Kd.R_far (p := ⟨gb676, 0, none⟩) (Kd.R_types HO674.out BK676.out (by decide)) (fun _ hk => hk.2) (.slice Ao65 t672.length co65)) rfl) (fun _ h_ => h_.1))) hb); have n6_ := Aside0.mk (blk_below (g := gb649) (o := .cells #[.slice A0_0 l0_0.length c0_0] 36 (0, 0)) (by (with_reducible repeat (first | refine blk_drewN ?_ _ | refine blk_drew ?_ | refine blk_alloc ?_ _)); refine blk_far ?_ NB649_676.out _; (with_reducible repeat (first | refine blk_drewN ?_ _ | refine blk_drew ?_ | refine blk_alloc ?_ _)); exact BK649.out) hb); have n7_ := Aside0.mk (blk_below (g := gb650) (o := .cells #[.slice A1_0 l1_0.length c1_0] 36 (0, 0)) (by (with_reducible repeat (first | refine blk_drewN ?_ _ | refine blk_drew ?_ | refine blk_alloc ?_ _)); refine blk_far ?_ NB650_676.out _; (with_reducible repeat (first | refine blk_drewN ?_ _ | refine blk_drew ?_ | refine blk_alloc ?_ _)); exact BK650.out) hb); have n8_ := Aside0.mk (blk_below (g := gb663) (o := .cells #[.slice Ao41 t659.length co41] 26 (0, 0)) (by (with_reducible repeat (first | refine blk_drewN ?_ _ | refine blk_drew ?_ | refine blk_alloc ?_ _)); refine blk_far ?_ NB663_676.out _; (with_reducible repeat (first | refine blk_drewN ?_ _ | refine blk_drew ?_ | refine blk_alloc ?_ _)); exact BK663.out) hb); have n9_ := Aside0.mk (blk_below (g := gb667) (o := .cells #[.slice Ao47 t664.length co47] 26 (0, 0)) (by (with_reducible repeat (first | refine blk_drewN ?_ _ | refine blk_drew ?_ | refine blk_alloc ?_ _)); refine blk_far ?_ NB667_676.out _; (with_reducible repeat (first | refine blk_drewN ?_ _ | refine blk_drew ?_ | refine blk_alloc ?_ _)); exact BK667.out) hb); have n10_ := Aside0.mk (blk_below (g := gb671) (o := .cells #[.slice Ao56 t668.length co56] 26 (0, 0)) (by (with_reducible repeat (first | refine blk_drewN ?_ _ | refine blk_drew ?_ | refine blk_alloc ?_ _)); refine blk_far ?_ NB671_676.out _; (with_reducible repeat (first | refine blk_drewN ?_ _ | refine blk_drew ?_ | refine blk_alloc ?_ _)); exact BK671.out) hb); have n11_ := Aside0.mk (blk_below (g := gb676) (o := .cells #[.slice Ao65 t672.length co65] 26 (0, 0)) (by (with_reducible repeat (first | refine blk_drewN ?_ _ | refine blk_drew ?_ | refine blk_alloc ?_ _)); refine blk_put (cs := #[.slice none 0 0]) ?_ 0 _ rfl; (with_reducible repeat (first | refine blk_drewN ?_ _ | refine blk_drew ?_ | refine blk_alloc ?_ _)); exact BK676.out) hb); have n12_ := Aside0.mk (below_step (by repeat (first | (with_reducible first | exact HB.out | apply below_alloc | apply pw_below_drewN | apply below_drew1 | refine below_set ?_ GE649.out | refine below_set ?_ GE650.out | refine below_set ?_ GE663.out | refine below_set ?_ GE667.out | refine below_set ?_ GE671.out | refine below_set ?_ GE676.out) | exact HB.out)) hb); clear HO655; clear HO658; clear HO661; clear HO666; clear HO670; clear HO674; clear BK649; clear BK650; clear BK663; clear BK667; clear BK671; clear BK676; clear HB; have HO655 := n0_; have HO658 := n1_; have HO661 := n2_; have HO666 := n3_; have HO670 := n4_; have HO674 := n5_; have BK649 := n6_; have BK650 := n7_; have BK663 := n8_; have BK667 := n9_; have BK671 := n10_; have BK676 := n11_; have HB := n12_; clear n0_ n1_ n2_ n3_ n4_ n5_ n6_ n7_ n8_ n9_ n10_ n11_ n12_; (try clear hb); (try clear hb2); (try clear hk); (try clear hi)))
     go_meet
     case rel => exact ⟨_, ((t675 != t662)), (by first | rfl | (simp; done) | (simp [*]; done)), H', ⟨by first | omega | exact Nat.le_refl _⟩, ⟨by (with_reducible repeat (first | apply Kd.R_alloc | apply Kd.R_drewN | apply Kd.R_drew)); exact Kd.R_mono HO661.out (fun _ hk => ⟨hk.1.1.2, ⟨hk.1.2, hk.2⟩⟩)⟩, ⟨by (with_reducible repeat (first | apply Kd.R_alloc | apply Kd.R_drewN | apply Kd.R_drew)); exact Kd.R_mono HO666.out (fun _ hk => ⟨hk.1.1.2, ⟨hk.1.2, hk.2⟩⟩)⟩, ⟨by (with_reducible repeat (first | apply Kd.R_alloc | apply Kd.R_drewN | apply Kd.R_drew)); exact Kd.R_mono HO670.out (fun _ hk => ⟨hk.1.1.2, ⟨hk.1.2, hk.2⟩⟩)⟩, ⟨by (with_reducible repeat (first | apply Kd.R_alloc | apply Kd.R_drewN | apply Kd.R_drew)); exact Kd.R_mono HO674.out (fun _ hk => ⟨hk.1.1.2, ⟨hk.1.2, hk.2⟩⟩)⟩, ⟨by (with_reducible repeat (first | refine blk_drewN ?_ _ | refine blk_drew ?_ | refine blk_alloc ?_ _)); exact BK649.out⟩, ⟨by (with_reducible repeat (first | refine blk_drewN ?_ _ | refine blk_drew ?_ | refine blk_alloc ?_ _)); exact BK650.out⟩, ⟨by (with_reducible repeat (first | refine blk_drewN ?_ _ | refine blk_drew ?_ | refine blk_alloc ?_ _)); exact BK663.out⟩, ⟨by (with_reducible repeat (first | refine blk_drewN ?_ _ | refine blk_drew ?_ | refine blk_alloc ?_ _)); exact BK667.out⟩, ⟨by (with_reducible repeat (first | refine blk_drewN ?_ _ | refine blk_drew ?_ | refine blk_alloc ?_ _)); exact BK671.out⟩, ⟨by (with_reducible repeat (first | refine blk_drewN ?_ _ | refine blk_drew ?_ | refine blk_alloc ?_ _)); exact BK676.out⟩, ⟨by repeat (first | (with_reducible first | exact HB.out | apply below_alloc | apply pw_below_drewN | apply below_drew1 | refine below_set ?_ GE649.out | refine below_set ?_ GE650.out | refine below_set ?_ GE663.out | refine below_set ?_ GE667.out | refine below_set ?_ GE671.out | refine below_set ?_ GE676.out) | exact HB.out)⟩⟩
    ·replace c73 := Bool.eq_false_iff.mpr c73
     subst c73
     have H1 : (laws_FnExactJoinTries.j0 k t662 t675 true l0_0 l1_0 t659 t664 t668 t672) = some true := by rw [if_neg (show ¬ (false = true) by decide)] at H; exact H
     exact absurd H1 (by cases k <;> simp [laws_FnExactJoinTries.j0])
   case rest =>
    clear HC25
    try clear c1
    try clear c2
    try clear p2
    try clear c3
    try clear c4
    try clear c5
    try clear c6
    try clear c7
    try clear c8
    try clear c9
    try clear c16
    try clear c23
    try clear c31
    try clear c32
    try clear c43
    try clear c48
    try clear c49
    try clear c50
    try clear c52
    try clear c57
    try clear c58
    try clear c59
    try clear c60
    try clear c66
    try clear c67
    try clear c68
    try clear c69
    try clear c70
    try clear c73
    try clear c74
    try clear c75
    try clear c76
    try clear c77
    try clear c78
    try clear c80
    try clear c81
    try clear c82
    try clear c83
    try clear c86
    try clear c87
    try clear c88
    try clear c89
    try clear c90
    try clear c92
    try clear c93
    try clear c94
    try clear c95
    try clear hcz44_0
    try clear hcz51_0
    try clear hcz53_0
    try clear hcz61_0
    try clear hcz62_0
    try clear hcz71_0
    try clear hcz79_0
    try clear hcz84_0
    try clear hcz91_0
    try clear hcz96_0
    try clear hfz44_0
    try clear hfz51_0
    try clear hfz53_0
    try clear hfz61_0
    try clear hfz62_0
    try clear hfz71_0
    try clear hfz79_0
    try clear hfz84_0
    try clear hfz91_0
    try clear hfz96_0
    obtain ⟨kq, x53_24, rfl, HA, HJ24, HO_664000, HO_668000, HO_672000, HO_677000, BK649, BK650, BK663, BK667, BK671, BK676, HB⟩ := hcut
    cases kq with
    | zero => exact absurd HA.out (by simp [laws_FnExactJoinTries.j0])
    | succ kj24 =>
     have H := HA.out
     clear HA
     simp only [laws_FnExactJoinTries.j0] at H
     by_cases c98 : x53_24 = true
     ·subst c98
      have H1 : (some false) = some true := by rw [if_pos rfl] at H; exact H
      exact absurd H1 (by simp)
     ·replace c98 := Bool.eq_false_iff.mpr c98
      subst c98
      have H1 : ((laws_toTrie.f kj24 l0_0).bind fun t678 => ((laws_eqTrie.f kj24 t664 t678).bind fun t681 => (if t681 = true then ((laws_toTrie.f kj24 l1_0).bind fun t682 => ((laws_eqTrie.f kj24 t668 t682).bind fun t685 => (if t685 = true then ((laws_markTrie.f kj24 t664 1).bind fun bt686 => ((laws_markTrie.f kj24 t668 bt686.1).bind fun bt688 => (if bt688.1 < 0 then (laws_FnExactJoinTries.j1 kj24 t662 true l0_0 l1_0 t659 t672) else ((laws_eqTrie.f kj24 t672 t659).bind fun t690 => (if t690 = true then (laws_FnExactJoinTries.j1 kj24 t662 (t675 != t662) l0_0 l1_0 t659 t672) else (laws_FnExactJoinTries.j1 kj24 t662 true l0_0 l1_0 t659 t672)))))) else (some false)))) else (some false)))) = some true := by rw [if_neg (show ¬ (false = true) by decide)] at H; exact H
      clear H
      have H := H1
      clear H1
      replace H := Option.bind_eq_some_iff.mp H
      obtain ⟨t678, A990, H⟩ := H
      replace H : ((laws_eqTrie.f kj24 t664 t678).bind fun t681 => (if t681 = true then ((laws_toTrie.f kj24 l1_0).bind fun t682 => ((laws_eqTrie.f kj24 t668 t682).bind fun t685 => (if t685 = true then ((laws_markTrie.f kj24 t664 1).bind fun bt686 => ((laws_markTrie.f kj24 t668 bt686.1).bind fun bt688 => (if bt688.1 < 0 then (laws_FnExactJoinTries.j1 kj24 t662 true l0_0 l1_0 t659 t672) else ((laws_eqTrie.f kj24 t672 t659).bind fun t690 => (if t690 = true then (laws_FnExactJoinTries.j1 kj24 t662 (t675 != t662) l0_0 l1_0 t659 t672) else (laws_FnExactJoinTries.j1 kj24 t662 true l0_0 l1_0 t659 t672)))))) else (some false)))) else (some false))) = some true := H
      have A99 := Aside0.mk A990
      clear A990
      replace H := Option.bind_eq_some_iff.mp H
      obtain ⟨t681, A1000, H⟩ := H
      replace H : (if t681 = true then ((laws_toTrie.f kj24 l1_0).bind fun t682 => ((laws_eqTrie.f kj24 t668 t682).bind fun t685 => (if t685 = true then ((laws_markTrie.f kj24 t664 1).bind fun bt686 => ((laws_markTrie.f kj24 t668 bt686.1).bind fun bt688 => (if bt688.1 < 0 then (laws_FnExactJoinTries.j1 kj24 t662 true l0_0 l1_0 t659 t672) else ((laws_eqTrie.f kj24 t672 t659).bind fun t690 => (if t690 = true then (laws_FnExactJoinTries.j1 kj24 t662 (t675 != t662) l0_0 l1_0 t659 t672) else (laws_FnExactJoinTries.j1 kj24 t662 true l0_0 l1_0 t659 t672)))))) else (some false)))) else (some false)) = some true := H
      have A100 := Aside0.mk A1000
      clear A1000
      by_cases c101 : t681 = true
      ·subst c101
       have H1 : ((laws_toTrie.f kj24 l1_0).bind fun t682 => ((laws_eqTrie.f kj24 t668 t682).bind fun t685 => (if t685 = true then ((laws_markTrie.f kj24 t664 1).bind fun bt686 => ((laws_markTrie.f kj24 t668 bt686.1).bind fun bt688 => (if bt688.1 < 0 then (laws_FnExactJoinTries.j1 kj24 t662 true l0_0 l1_0 t659 t672) else ((laws_eqTrie.f kj24 t672 t659).bind fun t690 => (if t690 = true then (laws_FnExactJoinTries.j1 kj24 t662 (t675 != t662) l0_0 l1_0 t659 t672) else (laws_FnExactJoinTries.j1 kj24 t662 true l0_0 l1_0 t659 t672)))))) else (some false)))) = some true := by rw [if_pos rfl] at H; exact H
       clear H
       have H := H1
       clear H1
       replace H := Option.bind_eq_some_iff.mp H
       obtain ⟨t682, A1020, H⟩ := H
       replace H : ((laws_eqTrie.f kj24 t668 t682).bind fun t685 => (if t685 = true then ((laws_markTrie.f kj24 t664 1).bind fun bt686 => ((laws_markTrie.f kj24 t668 bt686.1).bind fun bt688 => (if bt688.1 < 0 then (laws_FnExactJoinTries.j1 kj24 t662 true l0_0 l1_0 t659 t672) else ((laws_eqTrie.f kj24 t672 t659).bind fun t690 => (if t690 = true then (laws_FnExactJoinTries.j1 kj24 t662 (t675 != t662) l0_0 l1_0 t659 t672) else (laws_FnExactJoinTries.j1 kj24 t662 true l0_0 l1_0 t659 t672)))))) else (some false))) = some true := H
       have A102 := Aside0.mk A1020
       clear A1020
       replace H := Option.bind_eq_some_iff.mp H
       obtain ⟨t685, A1030, H⟩ := H
       replace H : (if t685 = true then ((laws_markTrie.f kj24 t664 1).bind fun bt686 => ((laws_markTrie.f kj24 t668 bt686.1).bind fun bt688 => (if bt688.1 < 0 then (laws_FnExactJoinTries.j1 kj24 t662 true l0_0 l1_0 t659 t672) else ((laws_eqTrie.f kj24 t672 t659).bind fun t690 => (if t690 = true then (laws_FnExactJoinTries.j1 kj24 t662 (t675 != t662) l0_0 l1_0 t659 t672) else (laws_FnExactJoinTries.j1 kj24 t662 true l0_0 l1_0 t659 t672)))))) else (some false)) = some true := H
       have A103 := Aside0.mk A1030
       clear A1030
       by_cases c104 : t685 = true
       ·subst c104
        have H1 : ((laws_markTrie.f kj24 t664 1).bind fun bt686 => ((laws_markTrie.f kj24 t668 bt686.1).bind fun bt688 => (if bt688.1 < 0 then (laws_FnExactJoinTries.j1 kj24 t662 true l0_0 l1_0 t659 t672) else ((laws_eqTrie.f kj24 t672 t659).bind fun t690 => (if t690 = true then (laws_FnExactJoinTries.j1 kj24 t662 (t675 != t662) l0_0 l1_0 t659 t672) else (laws_FnExactJoinTries.j1 kj24 t662 true l0_0 l1_0 t659 t672)))))) = some true := by rw [if_pos rfl] at H; exact H
        clear H
        have H := H1
        clear H1
        replace H := Option.bind_eq_some_iff.mp H
        obtain ⟨⟨t686, t687⟩, A1050, H⟩ := H
        replace H : ((laws_markTrie.f kj24 t668 t686).bind fun bt688 => (if bt688.1 < 0 then (laws_FnExactJoinTries.j1 kj24 t662 true l0_0 l1_0 t659 t672) else ((laws_eqTrie.f kj24 t672 t659).bind fun t690 => (if t690 = true then (laws_FnExactJoinTries.j1 kj24 t662 (t675 != t662) l0_0 l1_0 t659 t672) else (laws_FnExactJoinTries.j1 kj24 t662 true l0_0 l1_0 t659 t672))))) = some true := H
        have A105 := Aside0.mk A1050
        clear A1050
        replace H := Option.bind_eq_some_iff.mp H
        obtain ⟨⟨t688, t689⟩, A1060, H⟩ := H
        replace H : (if t688 < 0 then (laws_FnExactJoinTries.j1 kj24 t662 true l0_0 l1_0 t659 t672) else ((laws_eqTrie.f kj24 t672 t659).bind fun t690 => (if t690 = true then (laws_FnExactJoinTries.j1 kj24 t662 (t675 != t662) l0_0 l1_0 t659 t672) else (laws_FnExactJoinTries.j1 kj24 t662 true l0_0 l1_0 t659 t672)))) = some true := H
        have A106 := Aside0.mk A1060
        clear A1060
        have HC107 := Aside0.mk H
        clear H
        try go_wp2
        have n0_ := Aside0.mk (Kd.R_drew HO_664000.out)
        have n1_ := Aside0.mk (Kd.R_drew HO_668000.out)
        have n2_ := Aside0.mk (Kd.R_drew HO_672000.out)
        have n3_ := Aside0.mk (Kd.R_drew HO_677000.out)
        have n4_ := Aside0.mk (blk_drew BK649.out)
        have n5_ := Aside0.mk (blk_drew BK650.out)
        have n6_ := Aside0.mk (blk_drew BK663.out)
        have n7_ := Aside0.mk (blk_drew BK667.out)
        have n8_ := Aside0.mk (blk_drew BK671.out)
        have n9_ := Aside0.mk (blk_drew BK676.out)
        have n10_ := Aside0.mk (below_drew1 HB.out)
        revert n0_ n1_ n2_ n3_ n4_ n5_ n6_ n7_ n8_ n9_ n10_
        clear HO_664000 HO_668000 HO_672000 HO_677000 BK649 BK650 BK663 BK667 BK671 BK676 HB
        intro HO_664000 HO_668000 HO_672000 HO_677000 BK649 BK650 BK663 BK667 BK671 BK676 HB
        refine start_ (n := 5) (S := fun w' => w'.cell? ⟨gb667, 0, none⟩ = some (.slice Ao47 t664.length co47) ∧ w'.cell? ⟨gb649, 0, none⟩ = some (.slice A0_0 l0_0.length c0_0)) (ds := []) #[false, false, false, false, false] (by kernel_rfl) rfl rfl ⟨(blk_cell BK667.out 0).trans rfl, (blk_cell BK649.out 0).trans rfl⟩ (fun hHeld => ?_)
        generalize wc.drew = w108 at HO_664000 HO_668000 HO_672000 HO_677000 BK649 BK650 BK663 BK667 BK671 BK676 HB hHeld ⊢
        refine take_ (i := 0) (N := some 54) (v := ?_) (a' := ?_) #[true, false, false, false, false] rfl rfl (by kernel_rfl) (fun _ _ _ h => h) (Or.inl ⟨by rfl, ?_⟩) hHeld ?_ ?_
        rotate_left
        ·rintro w' ⟨s0, s1⟩
         go_simp
         with_reducible rfl
        rotate_left
        ·simp only [Act.put, List.setIfInBounds_toArray, List.set_cons_zero, List.set_cons_succ, i64_w, i32_w]
         rfl
        refine take_ (i := 1) (N := some 55) (v := ?_) (a' := ?_) #[true, true, false, false, false] rfl rfl (by kernel_rfl) (fun _ _ _ h => h) (Or.inl ⟨by rfl, ?_⟩) hHeld ?_ ?_
        rotate_left
        ·rintro w' ⟨s0, s1⟩
         go_simp
         with_reducible rfl
        rotate_left
        ·simp only [Act.put, List.setIfInBounds_toArray, List.set_cons_zero, List.set_cons_succ, i64_w, i32_w]
         rfl
        refine one_ (i := 2) (N := some 56) #[true, true, true, false, false] rfl rfl (by kernel_rfl) (by decide) (fun K hK => ?_)
        refine goes_ Tryd.func23 (by kernel_rfl) rfl #[.agg #[.slice A0_0 l0_0.length c0_0]] (by rfl) rfl rfl (by (try simp only [List.map_toArray, List.map_cons, List.map_nil]); first | done | rfl | (simp only [List.length_drop, List.length_take]; rfl)) ?_
        with_reducible refine (laws_toTrie.calls kj24 _ _ l0_0 t678 _ ?side1 ?side2 A99.out).mono ?_
        (case side1 => exact (Kd.C_below HR0_0.out HB.out))
        (case side2 => exact HC0_0.out)
        rintro e w109 ⟨v679, rfl, ho0, hb⟩
        refine ⟨_, rfl, ?_⟩
        have n0_ := Aside0.mk (Kd.R_elder' HO_664000.out (Kd.R_base ho0) hb)
        have n1_ := Aside0.mk (Kd.R_elder' HO_668000.out (Kd.R_base ho0) hb)
        have n2_ := Aside0.mk (Kd.R_elder' HO_672000.out (Kd.R_base ho0) hb)
        have n3_ := Aside0.mk (Kd.R_elder' HO_677000.out (Kd.R_base ho0) hb)
        have n4_ := Aside0.mk (Kd.R_lower (Kd.R_new' (Kd.R_new' (Kd.R_new' (Kd.R_new' ho0 (Kd.R_lt HO_664000.out)) (Kd.R_lt HO_668000.out)) (Kd.R_lt HO_672000.out)) (Kd.R_lt HO_677000.out)) (below_size HB.out))
        have n5_ := Aside0.mk (blk_below BK649.out hb)
        have n6_ := Aside0.mk (blk_below BK650.out hb)
        have n7_ := Aside0.mk (blk_below BK663.out hb)
        have n8_ := Aside0.mk (blk_below BK667.out hb)
        have n9_ := Aside0.mk (blk_below BK671.out hb)
        have n10_ := Aside0.mk (blk_below BK676.out hb)
        have n11_ := Aside0.mk (below_step HB.out hb)
        revert n0_ n1_ n2_ n3_ n4_ n5_ n6_ n7_ n8_ n9_ n10_ n11_
        clear HO_664000 HO_668000 HO_672000 HO_677000 BK649 BK650 BK663 BK667 BK671 BK676 HB
        intro HO_664000 HO_668000 HO_672000 HO_677000 HO680 BK649 BK650 BK663 BK667 BK671 BK676 HB
        (try clear hb)
        (try clear hb2)
        (try clear hk)
        (try clear hi)
        (try clear ho0)
        obtain ⟨Ao110, co110, eo110⟩ := Kd.R_slice HO680.out
        (first | subst eo110 | (injection eo110 with f1_ f2_ f3_; have f4_ := f1_.symm; have f5_ := f3_.symm; clear f1_ f2_ f3_; subst f4_; subst f5_))
        refine hK.out _ _ ⟨(blk_cell BK667.out 0).trans rfl, (blk_cell BK649.out 0).trans rfl⟩ (fun hHeld => ?_)
        clear hK K
        refine norm_ (a' := ?_) ?_ ?_
        rotate_left
        ·show Act.put _ (some 56) _ = _
         simp only [Act.put, List.setIfInBounds_toArray, List.set_cons_zero, List.set_cons_succ, i64_w, i32_w]
         rfl
        refine one_ (i := 3) (N := some 57) #[true, true, true, true, false] rfl rfl (by kernel_rfl) (by decide) (fun K hK => ?_)
        refine goes_ Tryd.func16 (by kernel_rfl) rfl #[.agg #[.slice Ao47 t664.length co47], .agg #[.slice Ao110 t678.length co110]] (by rfl) rfl rfl (by (try simp only [List.map_toArray, List.map_cons, List.map_nil]); first | done | rfl | (simp only [List.length_drop, List.length_take]; rfl)) ?_
        with_reducible refine (laws_eqTrie.calls kj24 _ _ t664 _ _ t678 true _ ?side1 ?side2 ?side3 ?side4 A100.out).mono ?_
        (case side1 => exact (Kd.R_reads' HO_668000.out).2.2)
        (case side2 => exact (Kd.R_reads' HO_668000.out).2.1)
        (case side3 => exact (Kd.R_reads' HO680.out).2.2)
        (case side4 => exact (Kd.R_reads' HO680.out).2.1)
        rintro e w111 ⟨rfl, hb⟩
        refine ⟨_, rfl, ?_⟩
        have n0_ := Aside0.mk (Kd.R_below HO_664000.out hb)
        have n1_ := Aside0.mk (Kd.R_below HO_668000.out hb)
        have n2_ := Aside0.mk (Kd.R_below HO_672000.out hb)
        have n3_ := Aside0.mk (Kd.R_below HO_677000.out hb)
        have n4_ := Aside0.mk (Kd.R_below HO680.out hb)
        have n5_ := Aside0.mk (blk_below BK649.out hb)
        have n6_ := Aside0.mk (blk_below BK650.out hb)
        have n7_ := Aside0.mk (blk_below BK663.out hb)
        have n8_ := Aside0.mk (blk_below BK667.out hb)
        have n9_ := Aside0.mk (blk_below BK671.out hb)
        have n10_ := Aside0.mk (blk_below BK676.out hb)
        have n11_ := Aside0.mk (below_step HB.out hb)
        revert n0_ n1_ n2_ n3_ n4_ n5_ n6_ n7_ n8_ n9_ n10_ n11_
        clear HO_664000 HO_668000 HO_672000 HO_677000 HO680 BK649 BK650 BK663 BK667 BK671 BK676 HB
        intro HO_664000 HO_668000 HO_672000 HO_677000 HO680 BK649 BK650 BK663 BK667 BK671 BK676 HB
        (try clear hb)
        (try clear hb2)
        (try clear hk)
        (try clear hi)
        refine hK.out _ _ ⟨(blk_cell BK667.out 0).trans rfl, (blk_cell BK649.out 0).trans rfl⟩ (fun hHeld => ?_)
        clear hK K
        refine norm_ (a' := ?_) ?_ ?_
        rotate_left
        ·show Act.put _ (some 57) _ = _
         simp only [Act.put, List.setIfInBounds_toArray, List.set_cons_zero, List.set_cons_succ, i64_w, i32_w]
         rfl
        refine pure_ (i := 4) (N := some 58) (v := ?_) (a' := ?_) #[true, true, true, true, true] rfl rfl (by kernel_rfl) (fun _ _ _ h => h) (Or.inl ⟨by rfl, ?_⟩) ?_ ?_
        rotate_left
        ·intro w'
         go_simp
         with_reducible rfl
        rotate_left
        ·simp only [Act.put, List.setIfInBounds_toArray, List.set_cons_zero, List.set_cons_succ, i64_w, i32_w]
         rfl
        refine done_ (by kernel_rfl) ?_
        try go_wp2
        have n0_ := Aside0.mk (Kd.R_drew HO_664000.out)
        have n1_ := Aside0.mk (Kd.R_drew HO_668000.out)
        have n2_ := Aside0.mk (Kd.R_drew HO_672000.out)
        have n3_ := Aside0.mk (Kd.R_drew HO_677000.out)
        have n4_ := Aside0.mk (Kd.R_drew HO680.out)
        have n5_ := Aside0.mk (blk_drew BK649.out)
        have n6_ := Aside0.mk (blk_drew BK650.out)
        have n7_ := Aside0.mk (blk_drew BK663.out)
        have n8_ := Aside0.mk (blk_drew BK667.out)
        have n9_ := Aside0.mk (blk_drew BK671.out)
        have n10_ := Aside0.mk (blk_drew BK676.out)
        have n11_ := Aside0.mk (below_drew1 HB.out)
        revert n0_ n1_ n2_ n3_ n4_ n5_ n6_ n7_ n8_ n9_ n10_ n11_
        clear HO_664000 HO_668000 HO_672000 HO_677000 HO680 BK649 BK650 BK663 BK667 BK671 BK676 HB
        intro HO_664000 HO_668000 HO_672000 HO_677000 HO680 BK649 BK650 BK663 BK667 BK671 BK676 HB
        refine start_ (n := 5) (S := fun w' => w'.cell? ⟨gb671, 0, none⟩ = some (.slice Ao56 t668.length co56) ∧ w'.cell? ⟨gb650, 0, none⟩ = some (.slice A1_0 l1_0.length c1_0)) (ds := []) #[false, false, false, false, false] (by kernel_rfl) rfl rfl ⟨(blk_cell BK671.out 0).trans rfl, (blk_cell BK650.out 0).trans rfl⟩ (fun hHeld => ?_)
        generalize w111.drew = w112 at HO_664000 HO_668000 HO_672000 HO_677000 HO680 BK649 BK650 BK663 BK667 BK671 BK676 HB hHeld ⊢
        refine take_ (i := 0) (N := some 59) (v := ?_) (a' := ?_) #[true, false, false, false, false] rfl rfl (by kernel_rfl) (fun _ _ _ h => h) (Or.inl ⟨by rfl, ?_⟩) hHeld ?_ ?_
        rotate_left
        ·rintro w' ⟨s0, s1⟩
         go_simp
         with_reducible rfl
        rotate_left
        ·simp only [Act.put, List.setIfInBounds_toArray, List.set_cons_zero, List.set_cons_succ, i64_w, i32_w]
         rfl
        refine take_ (i := 1) (N := some 60) (v := ?_) (a' := ?_) #[true, true, false, false, false] rfl rfl (by kernel_rfl) (fun _ _ _ h => h) (Or.inl ⟨by rfl, ?_⟩) hHeld ?_ ?_
        rotate_left
        ·rintro w' ⟨s0, s1⟩
         go_simp
         with_reducible rfl
        rotate_left
        ·simp only [Act.put, List.setIfInBounds_toArray, List.set_cons_zero, List.set_cons_succ, i64_w, i32_w]
         rfl
        refine one_ (i := 2) (N := some 61) #[true, true, true, false, false] rfl rfl (by kernel_rfl) (by decide) (fun K hK => ?_)
        refine goes_ Tryd.func23 (by kernel_rfl) rfl #[.agg #[.slice A1_0 l1_0.length c1_0]] (by rfl) rfl rfl (by (try simp only [List.map_toArray, List.map_cons, List.map_nil]); first | done | rfl | (simp only [List.length_drop, List.length_take]; rfl)) ?_
        with_reducible refine (laws_toTrie.calls kj24 _ _ l1_0 t682 _ ?side1 ?side2 A102.out).mono ?_
        (case side1 => exact (Kd.C_below HR1_0.out HB.out))
        (case side2 => exact HC1_0.out)
        rintro e w113 ⟨v683, rfl, ho0, hb⟩
        refine ⟨_, rfl, ?_⟩
        have n0_ := Aside0.mk (Kd.R_elder' HO_664000.out (Kd.R_base ho0) hb)
        have n1_ := Aside0.mk (Kd.R_elder' HO_668000.out (Kd.R_base ho0) hb)
        have n2_ := Aside0.mk (Kd.R_elder' HO_672000.out (Kd.R_base ho0) hb)
        have n3_ := Aside0.mk (Kd.R_elder' HO_677000.out (Kd.R_base ho0) hb)
        have n4_ := Aside0.mk (Kd.R_elder' HO680.out (Kd.R_base ho0) hb)
        have n5_ := Aside0.mk (Kd.R_lower (Kd.R_new' (Kd.R_new' (Kd.R_new' (Kd.R_new' (Kd.R_new' ho0 (Kd.R_lt HO_664000.out)) (Kd.R_lt HO_668000.out)) (Kd.R_lt HO_672000.out)) (Kd.R_lt HO_677000.out)) (Kd.R_lt HO680.out)) (below_size HB.out))
        have n6_ := Aside0.mk (blk_below BK649.out hb)
        have n7_ := Aside0.mk (blk_below BK650.out hb)
        have n8_ := Aside0.mk (blk_below BK663.out hb)
        have n9_ := Aside0.mk (blk_below BK667.out hb)
        have n10_ := Aside0.mk (blk_below BK671.out hb)
        have n11_ := Aside0.mk (blk_below BK676.out hb)
        have n12_ := Aside0.mk (below_step HB.out hb)
        revert n0_ n1_ n2_ n3_ n4_ n5_ n6_ n7_ n8_ n9_ n10_ n11_ n12_
        clear HO_664000 HO_668000 HO_672000 HO_677000 HO680 BK649 BK650 BK663 BK667 BK671 BK676 HB
        intro HO_664000 HO_668000 HO_672000 HO_677000 HO680 HO684 BK649 BK650 BK663 BK667 BK671 BK676 HB
        (try clear hb)
        (try clear hb2)
        (try clear hk)
        (try clear hi)
        (try clear ho0)
        obtain ⟨Ao114, co114, eo114⟩ := Kd.R_slice HO684.out
        (first | subst eo114 | (injection eo114 with f1_ f2_ f3_; have f4_ := f1_.symm; have f5_ := f3_.symm; clear f1_ f2_ f3_; subst f4_; subst f5_))
        refine hK.out _ _ ⟨(blk_cell BK671.out 0).trans rfl, (blk_cell BK650.out 0).trans rfl⟩ (fun hHeld => ?_)
        clear hK K
        refine norm_ (a' := ?_) ?_ ?_
        rotate_left
        ·show Act.put _ (some 61) _ = _
         simp only [Act.put, List.setIfInBounds_toArray, List.set_cons_zero, List.set_cons_succ, i64_w, i32_w]
         rfl
        refine one_ (i := 3) (N := some 62) #[true, true, true, true, false] rfl rfl (by kernel_rfl) (by decide) (fun K hK => ?_)
        refine goes_ Tryd.func16 (by kernel_rfl) rfl #[.agg #[.slice Ao56 t668.length co56], .agg #[.slice Ao114 t682.length co114]] (by rfl) rfl rfl (by (try simp only [List.map_toArray, List.map_cons, List.map_nil]); first | done | rfl | (simp only [List.length_drop, List.length_take]; rfl)) ?_
        with_reducible refine (laws_eqTrie.calls kj24 _ _ t668 _ _ t682 true _ ?side1 ?side2 ?side3 ?side4 A103.out).mono ?_
        (case side1 => exact (Kd.R_reads' HO_672000.out).2.2)
        (case side2 => exact (Kd.R_reads' HO_672000.out).2.1)
        (case side3 => exact (Kd.R_reads' HO684.out).2.2)
        (case side4 => exact (Kd.R_reads' HO684.out).2.1)
        rintro e w115 ⟨rfl, hb⟩
        refine ⟨_, rfl, ?_⟩
        have n0_ := Aside0.mk (Kd.R_below HO_664000.out hb)
        have n1_ := Aside0.mk (Kd.R_below HO_668000.out hb)
        have n2_ := Aside0.mk (Kd.R_below HO_672000.out hb)
        have n3_ := Aside0.mk (Kd.R_below HO_677000.out hb)
        have n4_ := Aside0.mk (Kd.R_below HO680.out hb)
        have n5_ := Aside0.mk (Kd.R_below HO684.out hb)
        have n6_ := Aside0.mk (blk_below BK649.out hb)
        have n7_ := Aside0.mk (blk_below BK650.out hb)
        have n8_ := Aside0.mk (blk_below BK663.out hb)
        have n9_ := Aside0.mk (blk_below BK667.out hb)
        have n10_ := Aside0.mk (blk_below BK671.out hb)
        have n11_ := Aside0.mk (blk_below BK676.out hb)
        have n12_ := Aside0.mk (below_step HB.out hb)
        revert n0_ n1_ n2_ n3_ n4_ n5_ n6_ n7_ n8_ n9_ n10_ n11_ n12_
        clear HO_664000 HO_668000 HO_672000 HO_677000 HO680 HO684 BK649 BK650 BK663 BK667 BK671 BK676 HB
        intro HO_664000 HO_668000 HO_672000 HO_677000 HO680 HO684 BK649 BK650 BK663 BK667 BK671 BK676 HB
        (try clear hb)
        (try clear hb2)
        (try clear hk)
        (try clear hi)
        refine hK.out _ _ ⟨(blk_cell BK671.out 0).trans rfl, (blk_cell BK650.out 0).trans rfl⟩ (fun hHeld => ?_)
        clear hK K
        refine norm_ (a' := ?_) ?_ ?_
        rotate_left
        ·show Act.put _ (some 62) _ = _
         simp only [Act.put, List.setIfInBounds_toArray, List.set_cons_zero, List.set_cons_succ, i64_w, i32_w]
         rfl
        refine pure_ (i := 4) (N := some 63) (v := ?_) (a' := ?_) #[true, true, true, true, true] rfl rfl (by kernel_rfl) (fun _ _ _ h => h) (Or.inl ⟨by rfl, ?_⟩) ?_ ?_
        rotate_left
        ·intro w'
         go_simp
         with_reducible rfl
        rotate_left
        ·simp only [Act.put, List.setIfInBounds_toArray, List.set_cons_zero, List.set_cons_succ, i64_w, i32_w]
         rfl
        refine done_ (by kernel_rfl) ?_
        have hnb116 := NB667_649.out
        have hnc116 := NB649_667.out
        have hnb117 := NB667_650.out
        have hnc117 := NB650_667.out
        have hnb118 := NB667_663.out
        have hnc118 := NB663_667.out
        have hnb119 := NB667_671.out
        have hnc119 := NB671_667.out
        have hnb120 := NB667_676.out
        have hnc120 := NB676_667.out
        have hcz121_0 : w115.cell? ⟨gb667, 0, none⟩ = some (.slice Ao47 t664.length co47) := (blk_cell BK667.out 0).trans rfl
        have hfz121_0 := blk_frozen BK667.out 0
        go_upto_region 21 with (first | ((with_reducible refine gate_callee (f := 19) rfl ?_); refine goesL_ (some 66) rfl rfl Tryd.func19 (by kernel_rfl) rfl #[.agg #[.slice Ao47 t664.length co47], .int .i64 1] rfl (by (try simp only [List.map_toArray, List.map_cons, List.map_nil]); first | done | rfl | (simp only [List.length_drop, List.length_take]; rfl)) ?_; (with_reducible refine (laws_markTrie.calls kj24 (fun k_ => some k_ = (.slice Ao47 t664.length co47 : Value).ownBlock) (.slice Ao47 t664.length co47) t664 1 t686 t687 w _ ?side1 ?side2 A105.out).mono ?_); (case side1 => repeat (first | (with_reducible first | exact HB.out | apply below_alloc | apply pw_below_drewN | apply below_drew1 | refine below_set ?_ GE649.out | refine below_set ?_ GE650.out | refine below_set ?_ GE663.out | refine below_set ?_ GE667.out | refine below_set ?_ GE671.out | refine below_set ?_ GE676.out) | exact HB.out)); (case side2 => exact Kd.R_tight rfl HO_668000.out); rintro e w122 ⟨rfl, hy0, hb, hkp⟩; refine ⟨_, rfl, ?_⟩; have n0_ := Aside0.mk (Kd.R_mono (ok' := fun k_ => some k_ ≠ (.slice Ao47 t664.length co47 : Value).ownBlock ∧ some k_ ≠ (.slice Ao56 t668.length co56 : Value).ownBlock ∧ some k_ ≠ (.slice Ao65 t672.length co65 : Value).ownBlock ∧ some k_ ≠ (.slice Ao110 t678.length co110 : Value).ownBlock ∧ some k_ ≠ (.slice Ao114 t682.length co114 : Value).ownBlock) (Kd.R_keptB (HO_664000.out) hkp (fun k_ hk_ hs_ => (hk_.1.1.1) hs_)) (fun k_ hk_ => ⟨hk_.1.1.1.1, hk_.1.1.1.2.1, hk_.1.1.1.2.2, hk_.1.1.2, hk_.1.2⟩)); have n1_ := Aside0.mk (Kd.R_reok rfl hy0 (fun k_ e_ => HO_668000.out.1 k_ e_)); have n2_ := Aside0.mk (Kd.R_mono (ok' := fun k_ => some k_ ≠ (.slice Ao41 t659.length co41 : Value).ownBlock ∧ some k_ ≠ (.slice Ao47 t664.length co47 : Value).ownBlock ∧ some k_ ≠ (.slice Ao65 t672.length co65 : Value).ownBlock ∧ some k_ ≠ (.slice Ao110 t678.length co110 : Value).ownBlock ∧ some k_ ≠ (.slice Ao114 t682.length co114 : Value).ownBlock) (Kd.R_keptB (HO_672000.out) hkp (fun k_ hk_ hs_ => (hk_.1.1.2.1) hs_)) (fun k_ hk_ => ⟨hk_.1.1.1.1, hk_.1.1.1.2.1, hk_.1.1.1.2.2, hk_.1.1.2, hk_.1.2⟩)); have n3_ := Aside0.mk (Kd.R_mono (ok' := fun k_ => some k_ ≠ (.slice Ao41 t659.length co41 : Value).ownBlock ∧ some k_ ≠ (.slice Ao47 t664.length co47 : Value).ownBlock ∧ some k_ ≠ (.slice Ao56 t668.length co56 : Value).ownBlock ∧ some k_ ≠ (.slice Ao110 t678.length co110 : Value).ownBlock ∧ some k_ ≠ (.slice Ao114 t682.length co114 : Value).ownBlock) (Kd.R_keptB (HO_677000.out) hkp (fun k_ hk_ hs_ => (hk_.1.1.2.1) hs_)) (fun k_ hk_ => ⟨hk_.1.1.1.1, hk_.1.1.1.2.1, hk_.1.1.1.2.2, hk_.1.1.2, hk_.1.2⟩)); have n4_ := Aside0.mk (blk_kept (by (with_reducible repeat (first | refine blk_drewN ?_ _ | refine blk_drew ?_ | refine blk_alloc ?_ _)); exact BK649.out) hkp (fun hs_ => (fun e_ => (Kd.R_ne HO_668000.out BK649.out (by decide)) e_) hs_)); have n5_ := Aside0.mk (blk_kept (by (with_reducible repeat (first | refine blk_drewN ?_ _ | refine blk_drew ?_ | refine blk_alloc ?_ _)); exact BK650.out) hkp (fun hs_ => (fun e_ => (Kd.R_ne HO_668000.out BK650.out (by decide)) e_) hs_)); have n6_ := Aside0.mk (blk_kept (by (with_reducible repeat (first | refine blk_drewN ?_ _ | refine blk_drew ?_ | refine blk_alloc ?_ _)); exact BK663.out) hkp (fun hs_ => (fun e_ => (Kd.R_ne HO_668000.out BK663.out (by decide)) e_) hs_)); have n7_ := Aside0.mk (blk_kept (by (with_reducible repeat (first | refine blk_drewN ?_ _ | refine blk_drew ?_ | refine blk_alloc ?_ _)); exact BK667.out) hkp (fun hs_ => (fun e_ => (Kd.R_ne HO_668000.out BK667.out (by decide)) e_) hs_)); have n8_ := Aside0.mk (blk_kept (by (with_reducible repeat (first | refine blk_drewN ?_ _ | refine blk_drew ?_ | refine blk_alloc ?_ _)); exact BK671.out) hkp (fun hs_ => (fun e_ => (Kd.R_ne HO_668000.out BK671.out (by decide)) e_) hs_)); have n9_ := Aside0.mk (blk_kept (by (with_reducible repeat (first | refine blk_drewN ?_ _ | refine blk_drew ?_ | refine blk_alloc ?_ _)); exact BK676.out) hkp (fun hs_ => (fun e_ => (Kd.R_ne HO_668000.out BK676.out (by decide)) e_) hs_)); have n10_ := Aside0.mk (Kd.R_mono (ok' := fun k_ => some k_ ≠ (.slice Ao41 t659.length co41 : Value).ownBlock ∧ some k_ ≠ (.slice Ao47 t664.length co47 : Value).ownBlock ∧ some k_ ≠ (.slice Ao56 t668.length co56 : Value).ownBlock ∧ some k_ ≠ (.slice Ao65 t672.length co65 : Value).ownBlock ∧ some k_ ≠ (.slice Ao114 t682.length co114 : Value).ownBlock) (Kd.R_keptB (HO680.out) hkp (fun k_ hk_ hs_ => (hk_.1.1.1.2) hs_)) (fun k_ hk_ => ⟨hk_.1.1.1.1.1.2, hk_.1.1.1.1.2, hk_.1.1.1.2, hk_.1.1.2, hk_.1.2⟩)); have n11_ := Aside0.mk (Kd.R_mono (ok' := fun k_ => some k_ ≠ (.slice Ao41 t659.length co41 : Value).ownBlock ∧ some k_ ≠ (.slice Ao47 t664.length co47 : Value).ownBlock ∧ some k_ ≠ (.slice Ao56 t668.length co56 : Value).ownBlock ∧ some k_ ≠ (.slice Ao65 t672.length co65 : Value).ownBlock ∧ some k_ ≠ (.slice Ao110 t678.length co110 : Value).ownBlock) (Kd.R_keptB (HO684.out) hkp (fun k_ hk_ hs_ => (hk_.1.1.1.2) hs_)) (fun k_ hk_ => ⟨hk_.1.1.1.1.1.2, hk_.1.1.1.1.2, hk_.1.1.1.2, hk_.1.1.2, hk_.1.2⟩)); have n12_ := Aside0.mk (hb); clear HO_664000; clear HO_668000; clear HO_672000; clear HO_677000; clear BK649; clear BK650; clear BK663; clear BK667; clear BK671; clear BK676; clear HO680; clear HO684; clear HB; have HO_664000 := n0_; have HO_668000 := n1_; have HO_672000 := n2_; have HO_677000 := n3_; have BK649 := n4_; have BK650 := n5_; have BK663 := n6_; have BK667 := n7_; have BK671 := n8_; have BK676 := n9_; have HO680 := n10_; have HO684 := n11_; have HB := n12_; clear n0_ n1_ n2_ n3_ n4_ n5_ n6_ n7_ n8_ n9_ n10_ n11_ n12_; (try clear hb); (try clear hkp); (try clear hy0); have hnb123 := NB671_649.out; have hnc123 := NB649_671.out; have hnb124 := NB671_650.out; have hnc124 := NB650_671.out; have hnb125 := NB671_663.out; have hnc125 := NB663_671.out; have hnb126 := NB671_676.out; have hnc126 := NB676_671.out; have hcz127_0 : w122.cell? ⟨gb671, 0, none⟩ = some (.slice Ao56 t668.length co56) := (blk_cell BK671.out 0).trans rfl; have hfz127_0 := blk_frozen BK671.out 0) | ((with_reducible refine gate_callee (f := 19) rfl ?_); refine goesL_ (some 69) rfl rfl Tryd.func19 (by kernel_rfl) rfl #[.agg #[.slice Ao56 t668.length co56], .int .i64 t686] rfl (by (try simp only [List.map_toArray, List.map_cons, List.map_nil]); first | done | rfl | (simp only [List.length_drop, List.length_take]; rfl)) ?_; (with_reducible refine (laws_markTrie.calls kj24 (fun k_ => some k_ = (.slice Ao56 t668.length co56 : Value).ownBlock) (.slice Ao56 t668.length co56) t668 t686 t688 t689 w _ ?side1 ?side2 A106.out).mono ?_); (case side1 => repeat (first | (with_reducible first | exact HB.out | apply below_alloc | apply pw_below_drewN | apply below_drew1 | refine below_set ?_ GE649.out | refine below_set ?_ GE650.out | refine below_set ?_ GE663.out | refine below_set ?_ GE667.out | refine below_set ?_ GE671.out | refine below_set ?_ GE676.out) | exact HB.out)); (case side2 => exact Kd.R_tight rfl HO_672000.out); rintro e w128 ⟨rfl, hy0, hb, hkp⟩; refine ⟨_, rfl, ?_⟩; have n0_ := Aside0.mk (Kd.R_mono (ok' := fun k_ => some k_ ≠ (.slice Ao47 t664.length co47 : Value).ownBlock ∧ some k_ ≠ (.slice Ao56 t668.length co56 : Value).ownBlock ∧ some k_ ≠ (.slice Ao65 t672.length co65 : Value).ownBlock ∧ some k_ ≠ (.slice Ao110 t678.length co110 : Value).ownBlock ∧ some k_ ≠ (.slice Ao114 t682.length co114 : Value).ownBlock) (Kd.R_keptB (HO_664000.out) hkp (fun k_ hk_ hs_ => (hk_.2.1) hs_)) (fun k_ hk_ => ⟨hk_.1.1, hk_.1.2.1, hk_.1.2.2.1, hk_.1.2.2.2.1, hk_.1.2.2.2.2⟩)); have n1_ := Aside0.mk (Kd.R_mono (ok' := fun k_ => some k_ ≠ (.slice Ao41 t659.length co41 : Value).ownBlock ∧ some k_ ≠ (.slice Ao56 t668.length co56 : Value).ownBlock ∧ some k_ ≠ (.slice Ao65 t672.length co65 : Value).ownBlock ∧ some k_ ≠ (.slice Ao110 t678.length co110 : Value).ownBlock ∧ some k_ ≠ (.slice Ao114 t682.length co114 : Value).ownBlock) (Kd.R_keptB (HO_668000.out) hkp (fun k_ hk_ hs_ => (hk_.1.1.2.1) hs_)) (fun k_ hk_ => ⟨hk_.1.1.1.1, hk_.1.1.1.2.1, hk_.1.1.1.2.2, hk_.1.1.2, hk_.1.2⟩)); have n2_ := Aside0.mk (Kd.R_reok rfl hy0 (fun k_ e_ => HO_672000.out.1 k_ e_)); have n3_ := Aside0.mk (Kd.R_mono (ok' := fun k_ => some k_ ≠ (.slice Ao41 t659.length co41 : Value).ownBlock ∧ some k_ ≠ (.slice Ao47 t664.length co47 : Value).ownBlock ∧ some k_ ≠ (.slice Ao56 t668.length co56 : Value).ownBlock ∧ some k_ ≠ (.slice Ao110 t678.length co110 : Value).ownBlock ∧ some k_ ≠ (.slice Ao114 t682.length co114 : Value).ownBlock) (Kd.R_keptB (HO_677000.out) hkp (fun k_ hk_ hs_ => (hk_.2.2.1) hs_)) (fun k_ hk_ => ⟨hk_.1.1, hk_.1.2.1, hk_.1.2.2.1, hk_.1.2.2.2.1, hk_.1.2.2.2.2⟩)); have n4_ := Aside0.mk (blk_kept (by (with_reducible repeat (first | refine blk_drewN ?_ _ | refine blk_drew ?_ | refine blk_alloc ?_ _)); exact BK649.out) hkp (fun hs_ => (fun e_ => (Kd.R_ne HO_672000.out BK649.out (by decide)) e_) hs_)); have n5_ := Aside0.mk (blk_kept (by (with_reducible repeat (first | refine blk_drewN ?_ _ | refine blk_drew ?_ | refine blk_alloc ?_ _)); exact BK650.out) hkp (fun hs_ => (fun e_ => (Kd.R_ne HO_672000.out BK650.out (by decide)) e_) hs_)); have n6_ := Aside0.mk (blk_kept (by (with_reducible repeat (first | refine blk_drewN ?_ _ | refine blk_drew ?_ | refine blk_alloc ?_ _)); exact BK663.out) hkp (fun hs_ => (fun e_ => (Kd.R_ne HO_672000.out BK663.out (by decide)) e_) hs_)); have n7_ := Aside0.mk (blk_kept (by (with_reducible repeat (first | refine blk_drewN ?_ _ | refine blk_drew ?_ | refine blk_alloc ?_ _)); exact BK667.out) hkp (fun hs_ => (fun e_ => (Kd.R_ne HO_672000.out BK667.out (by decide)) e_) hs_)); have n8_ := Aside0.mk (blk_kept (by (with_reducible repeat (first | refine blk_drewN ?_ _ | refine blk_drew ?_ | refine blk_alloc ?_ _)); exact BK671.out) hkp (fun hs_ => (fun e_ => (Kd.R_ne HO_672000.out BK671.out (by decide)) e_) hs_)); have n9_ := Aside0.mk (blk_kept (by (with_reducible repeat (first | refine blk_drewN ?_ _ | refine blk_drew ?_ | refine blk_alloc ?_ _)); exact BK676.out) hkp (fun hs_ => (fun e_ => (Kd.R_ne HO_672000.out BK676.out (by decide)) e_) hs_)); have n10_ := Aside0.mk (Kd.R_mono (ok' := fun k_ => some k_ ≠ (.slice Ao41 t659.length co41 : Value).ownBlock ∧ some k_ ≠ (.slice Ao47 t664.length co47 : Value).ownBlock ∧ some k_ ≠ (.slice Ao56 t668.length co56 : Value).ownBlock ∧ some k_ ≠ (.slice Ao65 t672.length co65 : Value).ownBlock ∧ some k_ ≠ (.slice Ao114 t682.length co114 : Value).ownBlock) (Kd.R_keptB (HO680.out) hkp (fun k_ hk_ hs_ => (hk_.2.2.1) hs_)) (fun k_ hk_ => ⟨hk_.1.1, hk_.1.2.1, hk_.1.2.2.1, hk_.1.2.2.2.1, hk_.1.2.2.2.2⟩)); have n11_ := Aside0.mk (Kd.R_mono (ok' := fun k_ => some k_ ≠ (.slice Ao41 t659.length co41 : Value).ownBlock ∧ some k_ ≠ (.slice Ao47 t664.length co47 : Value).ownBlock ∧ some k_ ≠ (.slice Ao56 t668.length co56 : Value).ownBlock ∧ some k_ ≠ (.slice Ao65 t672.length co65 : Value).ownBlock ∧ some k_ ≠ (.slice Ao110 t678.length co110 : Value).ownBlock) (Kd.R_keptB (HO684.out) hkp (fun k_ hk_ hs_ => (hk_.2.2.1) hs_)) (fun k_ hk_ => ⟨hk_.1.1, hk_.1.2.1, hk_.1.2.2.1, hk_.1.2.2.2.1, hk_.1.2.2.2.2⟩)); have n12_ := Aside0.mk (hb); clear HO_664000; clear HO_668000; clear HO_672000; clear HO_677000; clear BK649; clear BK650; clear BK663; clear BK667; clear BK671; clear BK676; clear HO680; clear HO684; clear HB; have HO_664000 := n0_; have HO_668000 := n1_; have HO_672000 := n2_; have HO_677000 := n3_; have BK649 := n4_; have BK650 := n5_; have BK663 := n6_; have BK667 := n7_; have BK671 := n8_; have BK676 := n9_; have HO680 := n10_; have HO684 := n11_; have HB := n12_; clear n0_ n1_ n2_ n3_ n4_ n5_ n6_ n7_ n8_ n9_ n10_ n11_ n12_; (try clear hb); (try clear hkp); (try clear hy0)))
        (try simp only [Act.put, List.setIfInBounds_toArray, List.set_cons_zero, List.set_cons_succ])
        go_cut [82] (fun v82 wc => ∃ (kq : Nat) (x82_106 : Bool), v82 = .bool x82_106 ∧ Aside0 (laws_FnExactJoinTries.j1 kq t662 x82_106 l0_0 l1_0 t659 t672 = some true) ∧ Aside0 (kq ≤ kj24) ∧ Aside0 (Kd.R k76 76 wc w.heap.size (fun k_ => some k_ ≠ ((.slice Ao47 t664.length co47) : Value).ownBlock ∧ some k_ ≠ ((.slice Ao56 t668.length co56) : Value).ownBlock ∧ some k_ ≠ ((.slice Ao65 t672.length co65) : Value).ownBlock) (.slice Ao41 t659.length co41) t659) ∧ Aside0 (Kd.R k76 76 wc w.heap.size (fun k_ => some k_ ≠ ((.slice Ao41 t659.length co41) : Value).ownBlock ∧ some k_ ≠ ((.slice Ao56 t668.length co56) : Value).ownBlock ∧ some k_ ≠ ((.slice Ao65 t672.length co65) : Value).ownBlock) (.slice Ao47 t664.length co47) t687) ∧ Aside0 (Kd.R k76 76 wc w.heap.size (fun k_ => some k_ ≠ ((.slice Ao41 t659.length co41) : Value).ownBlock ∧ some k_ ≠ ((.slice Ao47 t664.length co47) : Value).ownBlock ∧ some k_ ≠ ((.slice Ao65 t672.length co65) : Value).ownBlock) (.slice Ao56 t668.length co56) t689) ∧ Aside0 (Kd.R k76 76 wc w.heap.size (fun k_ => some k_ ≠ ((.slice Ao41 t659.length co41) : Value).ownBlock ∧ some k_ ≠ ((.slice Ao47 t664.length co47) : Value).ownBlock ∧ some k_ ≠ ((.slice Ao56 t668.length co56) : Value).ownBlock) (.slice Ao65 t672.length co65) t672) ∧ Aside0 (wc.heap[gb649]? = some (.cells #[(.slice A0_0 l0_0.length c0_0)] 36 (0, 0))) ∧ Aside0 (wc.heap[gb650]? = some (.cells #[(.slice A1_0 l1_0.length c1_0)] 36 (0, 0))) ∧ Aside0 (wc.heap[gb663]? = some (.cells #[(.slice Ao41 t659.length co41)] 26 (0, 0))) ∧ Aside0 (wc.heap[gb667]? = some (.cells #[(.slice Ao47 t664.length co47)] 26 (0, 0))) ∧ Aside0 (wc.heap[gb671]? = some (.cells #[(.slice Ao56 t668.length co56)] 26 (0, 0))) ∧ Aside0 (wc.heap[gb676]? = some (.cells #[(.slice Ao65 t672.length co65)] 26 (0, 0))) ∧ Aside0 (Below w.heap.size w wc))
        case first =>
         have H := HC107.out
         clear HC107
         by_cases c129 : t688 < 0
         ·rw [if_pos c129] at H
          exact absurd H (by cases kj24 <;> simp [laws_FnExactJoinTries.j1])
         ·rw [if_neg c129] at H
          have c129b0 : decide (t688 < 0) = false := decide_eq_false c129
          clear c129
          (first | rw [c129b0] | (simp only [i64_w, i32_w]; rw [c129b0]) | skip)
          replace H := Option.bind_eq_some_iff.mp H
          obtain ⟨t690, A1300, H⟩ := H
          replace H : (if t690 = true then (laws_FnExactJoinTries.j1 kj24 t662 (t675 != t662) l0_0 l1_0 t659 t672) else (laws_FnExactJoinTries.j1 kj24 t662 true l0_0 l1_0 t659 t672)) = some true := H
          have A130 := Aside0.mk A1300
          clear A1300
          by_cases c131 : t690 = true
          ·subst c131
           have H1 : (laws_FnExactJoinTries.j1 kj24 t662 (t675 != t662) l0_0 l1_0 t659 t672) = some true := by rw [if_pos rfl] at H; exact H
           clear H
           have H := H1
           clear H1
           have H' := Aside0.mk H
           clear H
           have hnb132 := NB676_649.out
           have hnc132 := NB649_676.out
           have hnb133 := NB676_650.out
           have hnc133 := NB650_676.out
           have hnb134 := NB676_663.out
           have hnc134 := NB663_676.out
           have hnb135 := NB676_667.out
           have hnc135 := NB667_676.out
           have hnb136 := NB676_671.out
           have hnc136 := NB671_676.out
           have hcz137_0 : w128.cell? ⟨gb676, 0, none⟩ = some (.slice Ao65 t672.length co65) := (blk_cell BK676.out 0).trans rfl
           have hfz137_0 := blk_frozen BK676.out 0
           have hnb138 := NB663_649.out
           have hnc138 := NB649_663.out
           have hnb139 := NB663_650.out
           have hnc139 := NB650_663.out
           have hnb140 := NB663_667.out
           have hnc140 := NB667_663.out
           have hnb141 := NB663_671.out
           have hnc141 := NB671_663.out
           have hcz142_0 : w128.cell? ⟨gb663, 0, none⟩ = some (.slice Ao41 t659.length co41) := (blk_cell BK663.out 0).trans rfl
           have hfz142_0 := blk_frozen BK663.out 0
           go_wp2_with (first | (go_at_call 16; (with_reducible refine (laws_eqTrie.calls kj24 _ _ t672 _ _ t659 true _ ?side1 ?side2 ?side3 ?side4 A130.out).mono ?_); (case side1 => repeat (first | exact (Kd.R_reads' HO_677000.out).2.2 | (with_reducible refine Kd.C_alloc ?_ _) | (with_reducible refine Kd.C_drewN ?_ _) | (with_reducible refine Kd.C_drew ?_))); (case side2 => exact (Kd.R_reads' HO_677000.out).2.1); (case side3 => repeat (first | exact (Kd.R_reads' HO_664000.out).2.2 | (with_reducible refine Kd.C_alloc ?_ _) | (with_reducible refine Kd.C_drewN ?_ _) | (with_reducible refine Kd.C_drew ?_))); (case side4 => exact (Kd.R_reads' HO_664000.out).2.1); rintro e w143 ⟨rfl, hb⟩; have n0_ := Aside0.mk (Kd.R_below (by (with_reducible repeat (first | apply Kd.R_alloc | apply Kd.R_drewN | apply Kd.R_drew)); exact HO_664000.out) hb); have n1_ := Aside0.mk (Kd.R_below (by (with_reducible repeat (first | apply Kd.R_alloc | apply Kd.R_drewN | apply Kd.R_drew)); exact HO_668000.out) hb); have n2_ := Aside0.mk (Kd.R_below (by (with_reducible repeat (first | apply Kd.R_alloc | apply Kd.R_drewN | apply Kd.R_drew)); exact HO_672000.out) hb); have n3_ := Aside0.mk (Kd.R_below (by (with_reducible repeat (first | apply Kd.R_alloc | apply Kd.R_drewN | apply Kd.R_drew)); exact HO_677000.out) hb); have n4_ := Aside0.mk (Kd.R_below (by (with_reducible repeat (first | apply Kd.R_alloc | apply Kd.R_drewN | apply Kd.R_drew)); exact HO680.out) hb); have n5_ := Aside0.mk (Kd.R_below (by (with_reducible repeat (first | apply Kd.R_alloc | apply Kd.R_drewN | apply Kd.R_drew)); exact HO684.out) hb); have n6_ := Aside0.mk (blk_below (g := gb649) (o := .cells #[.slice A0_0 l0_0.length c0_0] 36 (0, 0)) (by (with_reducible repeat (first | refine blk_drewN ?_ _ | refine blk_drew ?_ | refine blk_alloc ?_ _)); exact BK649.out) hb); have n7_ := Aside0.mk (blk_below (g := gb650) (o := .cells #[.slice A1_0 l1_0.length c1_0] 36 (0, 0)) (by (with_reducible repeat (first | refine blk_drewN ?_ _ | refine blk_drew ?_ | refine blk_alloc ?_ _)); exact BK650.out) hb); have n8_ := Aside0.mk (blk_below (g := gb663) (o := .cells #[.slice Ao41 t659.length co41] 26 (0, 0)) (by (with_reducible repeat (first | refine blk_drewN ?_ _ | refine blk_drew ?_ | refine blk_alloc ?_ _)); exact BK663.out) hb); have n9_ := Aside0.mk (blk_below (g := gb667) (o := .cells #[.slice Ao47 t664.length co47] 26 (0, 0)) (by (with_reducible repeat (first | refine blk_drewN ?_ _ | refine blk_drew ?_ | refine blk_alloc ?_ _)); exact BK667.out) hb); have n10_ := Aside0.mk (blk_below (g := gb671) (o := .cells #[.slice Ao56 t668.length co56] 26 (0, 0)) (by (with_reducible repeat (first | refine blk_drewN ?_ _ | refine blk_drew ?_ | refine blk_alloc ?_ _)); exact BK671.out) hb); have n11_ := Aside0.mk (blk_below (g := gb676) (o := .cells #[.slice Ao65 t672.length co65] 26 (0, 0)) (by (with_reducible repeat (first | refine blk_drewN ?_ _ | refine blk_drew ?_ | refine blk_alloc ?_ _)); exact BK676.out) hb); have n12_ := Aside0.mk (below_step (by repeat (first | (with_reducible first | exact HB.out | apply below_alloc | apply pw_below_drewN | apply below_drew1 | refine below_set ?_ GE649.out | refine below_set ?_ GE650.out | refine below_set ?_ GE663.out | refine below_set ?_ GE667.out | refine below_set ?_ GE671.out | refine below_set ?_ GE676.out) | exact HB.out)) hb); clear HO_664000; clear HO_668000; clear HO_672000; clear HO_677000; clear HO680; clear HO684; clear BK649; clear BK650; clear BK663; clear BK667; clear BK671; clear BK676; clear HB; have HO_664000 := n0_; have HO_668000 := n1_; have HO_672000 := n2_; have HO_677000 := n3_; have HO680 := n4_; have HO684 := n5_; have BK649 := n6_; have BK650 := n7_; have BK663 := n8_; have BK667 := n9_; have BK671 := n10_; have BK676 := n11_; have HB := n12_; clear n0_ n1_ n2_ n3_ n4_ n5_ n6_ n7_ n8_ n9_ n10_ n11_ n12_; (try clear hb); (try clear hb2); (try clear hk); (try clear hi)))
           go_meet
           case rel => exact ⟨_, ((t675 != t662)), (by first | rfl | (simp; done) | (simp [*]; done)), H', ⟨by have := HJ24.out; first | omega | exact Nat.le_refl _⟩, ⟨by (with_reducible repeat (first | apply Kd.R_alloc | apply Kd.R_drewN | apply Kd.R_drew)); exact Kd.R_mono HO_664000.out (fun _ hk => ⟨hk.1, ⟨hk.2.1, hk.2.2.1⟩⟩)⟩, ⟨by (with_reducible repeat (first | apply Kd.R_alloc | apply Kd.R_drewN | apply Kd.R_drew)); exact Kd.R_mono HO_668000.out (fun _ hk => ⟨hk.1, ⟨hk.2.1, hk.2.2.1⟩⟩)⟩, ⟨by (with_reducible repeat (first | apply Kd.R_alloc | apply Kd.R_drewN | apply Kd.R_drew)); exact Kd.R_mono HO_672000.out (fun _ hk => ⟨hk.1, ⟨hk.2.1, hk.2.2.1⟩⟩)⟩, ⟨by (with_reducible repeat (first | apply Kd.R_alloc | apply Kd.R_drewN | apply Kd.R_drew)); exact Kd.R_mono HO_677000.out (fun _ hk => ⟨hk.1, ⟨hk.2.1, hk.2.2.1⟩⟩)⟩, ⟨by (with_reducible repeat (first | refine blk_drewN ?_ _ | refine blk_drew ?_ | refine blk_alloc ?_ _)); exact BK649.out⟩, ⟨by (with_reducible repeat (first | refine blk_drewN ?_ _ | refine blk_drew ?_ | refine blk_alloc ?_ _)); exact BK650.out⟩, ⟨by (with_reducible repeat (first | refine blk_drewN ?_ _ | refine blk_drew ?_ | refine blk_alloc ?_ _)); exact BK663.out⟩, ⟨by (with_reducible repeat (first | refine blk_drewN ?_ _ | refine blk_drew ?_ | refine blk_alloc ?_ _)); exact BK667.out⟩, ⟨by (with_reducible repeat (first | refine blk_drewN ?_ _ | refine blk_drew ?_ | refine blk_alloc ?_ _)); exact BK671.out⟩, ⟨by (with_reducible repeat (first | refine blk_drewN ?_ _ | refine blk_drew ?_ | refine blk_alloc ?_ _)); exact BK676.out⟩, ⟨by repeat (first | (with_reducible first | exact HB.out | apply below_alloc | apply pw_below_drewN | apply below_drew1 | refine below_set ?_ GE649.out | refine below_set ?_ GE650.out | refine below_set ?_ GE663.out | refine below_set ?_ GE667.out | refine below_set ?_ GE671.out | refine below_set ?_ GE676.out) | exact HB.out)⟩⟩
          ·replace c131 := Bool.eq_false_iff.mpr c131
           subst c131
           have H1 : (laws_FnExactJoinTries.j1 kj24 t662 true l0_0 l1_0 t659 t672) = some true := by rw [if_neg (show ¬ (false = true) by decide)] at H; exact H
           exact absurd H1 (by cases kj24 <;> simp [laws_FnExactJoinTries.j1])
        case rest =>
         clear HC107
         try clear c1
         try clear c2
         try clear p2
         try clear c3
         try clear c4
         try clear c5
         try clear c6
         try clear c7
         try clear c8
         try clear c9
         try clear c10
         try clear c11
         try clear c12
         try clear c13
         try clear c14
         try clear c15
         try clear c16
         try clear c19
         try clear c23
         try clear c31
         try clear c32
         try clear c43
         try clear c48
         try clear c49
         try clear c50
         try clear c52
         try clear c57
         try clear c58
         try clear c59
         try clear c60
         try clear c66
         try clear c67
         try clear c68
         try clear c69
         try clear c70
         try clear c73
         try clear c74
         try clear c75
         try clear c76
         try clear c77
         try clear c78
         try clear c80
         try clear c81
         try clear c82
         try clear c83
         try clear c86
         try clear c87
         try clear c88
         try clear c89
         try clear c90
         try clear c92
         try clear c93
         try clear c94
         try clear c95
         try clear c98
         try clear c101
         try clear c104
         try clear c116
         try clear c117
         try clear c118
         try clear c119
         try clear c120
         try clear c123
         try clear c124
         try clear c125
         try clear c126
         try clear c129
         try clear c129b0
         try clear c131
         try clear c132
         try clear c133
         try clear c134
         try clear c135
         try clear c136
         try clear c138
         try clear c139
         try clear c140
         try clear c141
         try clear c144
         try clear c145
         try clear c146
         try clear c147
         try clear c148
         try clear c150
         try clear c151
         try clear c152
         try clear c153
         try clear hcz121_0
         try clear hcz127_0
         try clear hcz137_0
         try clear hcz142_0
         try clear hcz149_0
         try clear hcz154_0
         try clear hcz44_0
         try clear hcz51_0
         try clear hcz53_0
         try clear hcz61_0
         try clear hcz62_0
         try clear hcz71_0
         try clear hcz79_0
         try clear hcz84_0
         try clear hcz91_0
         try clear hcz96_0
         try clear hfz121_0
         try clear hfz127_0
         try clear hfz137_0
         try clear hfz142_0
         try clear hfz149_0
         try clear hfz154_0
         try clear hfz44_0
         try clear hfz51_0
         try clear hfz53_0
         try clear hfz61_0
         try clear hfz62_0
         try clear hfz71_0
         try clear hfz79_0
         try clear hfz84_0
         try clear hfz91_0
         try clear hfz96_0
         try clear p2
         obtain ⟨kq, x82_106, rfl, HA, HJ106, HO_664000, HO_668000, HO_672000, HO_677000, BK649, BK650, BK663, BK667, BK671, BK676, HB⟩ := hcut
         have hl668000_106 := (Kd.R_reads' HO_668000.out).1
         rw [hl668000_106] at HO_668000
         (try simp only [hl668000_106])
         (try simp only [hl668000_106] at BK649)
         (try simp only [hl668000_106] at BK650)
         (try simp only [hl668000_106] at BK663)
         (try simp only [hl668000_106] at BK667)
         (try simp only [hl668000_106] at BK671)
         (try simp only [hl668000_106] at BK676)
         (try simp only [hl668000_106] at HO_664000)
         (try simp only [hl668000_106] at HO_672000)
         (try simp only [hl668000_106] at HO_677000)
         have hl672000_106 := (Kd.R_reads' HO_672000.out).1
         rw [hl672000_106] at HO_672000
         (try simp only [hl672000_106])
         (try simp only [hl672000_106] at BK649)
         (try simp only [hl672000_106] at BK650)
         (try simp only [hl672000_106] at BK663)
         (try simp only [hl672000_106] at BK667)
         (try simp only [hl672000_106] at BK671)
         (try simp only [hl672000_106] at BK676)
         (try simp only [hl672000_106] at HO_664000)
         (try simp only [hl672000_106] at HO_668000)
         (try simp only [hl672000_106] at HO_677000)
         cases kq with
         | zero => exact absurd HA.out (by simp [laws_FnExactJoinTries.j1])
         | succ kj106 =>
          have H := HA.out
          clear HA
          simp only [laws_FnExactJoinTries.j1] at H
          by_cases c156 : x82_106 = true
          ·subst c156
           have H1 : (some false) = some true := by rw [if_pos rfl] at H; exact H
           exact absurd H1 (by simp)
          ·replace c156 := Bool.eq_false_iff.mpr c156
           subst c156
           have H1 : ((laws_markTrie.f kj106 t672 1).bind fun bt691 => ((laws_heldTrie.f kj106 bt691.2 1).bind fun t693 => (if t693 < 0 then (some false) else (if t693 = bt691.1 then ((laws_toTrie.f kj106 l0_0).bind fun t694 => ((laws_toTrie.f kj106 l1_0).bind fun t697 => ((impl_JoinTries.f kj106 t694 t697).bind fun bt700 => ((laws_eqTrie.f kj106 bt700.1 t659).bind fun t705 => (if t705 = true then (laws_FnExactJoinTries.j2 kj106 bt691.1 (bt700.2 != t662) bt691.2) else (laws_FnExactJoinTries.j2 kj106 bt691.1 true bt691.2)))))) else (some false))))) = some true := by rw [if_neg (show ¬ (false = true) by decide)] at H; exact H
           clear H
           have H := H1
           clear H1
           replace H := Option.bind_eq_some_iff.mp H
           obtain ⟨⟨t691, t692⟩, A1570, H⟩ := H
           replace H : ((laws_heldTrie.f kj106 t692 1).bind fun t693 => (if t693 < 0 then (some false) else (if t693 = t691 then ((laws_toTrie.f kj106 l0_0).bind fun t694 => ((laws_toTrie.f kj106 l1_0).bind fun t697 => ((impl_JoinTries.f kj106 t694 t697).bind fun bt700 => ((laws_eqTrie.f kj106 bt700.1 t659).bind fun t705 => (if t705 = true then (laws_FnExactJoinTries.j2 kj106 t691 (bt700.2 != t662) t692) else (laws_FnExactJoinTries.j2 kj106 t691 true t692)))))) else (some false)))) = some true := H
           have A157 := Aside0.mk A1570
           clear A1570
           replace H := Option.bind_eq_some_iff.mp H
           obtain ⟨t693, A1580, H⟩ := H
           replace H : (if t693 < 0 then (some false) else (if t693 = t691 then ((laws_toTrie.f kj106 l0_0).bind fun t694 => ((laws_toTrie.f kj106 l1_0).bind fun t697 => ((impl_JoinTries.f kj106 t694 t697).bind fun bt700 => ((laws_eqTrie.f kj106 bt700.1 t659).bind fun t705 => (if t705 = true then (laws_FnExactJoinTries.j2 kj106 t691 (bt700.2 != t662) t692) else (laws_FnExactJoinTries.j2 kj106 t691 true t692)))))) else (some false))) = some true := H
           have A158 := Aside0.mk A1580
           clear A1580
           by_cases c159 : t693 < 0
           ·rw [if_pos c159] at H
            exact absurd H (by simp)
           ·rw [if_neg c159] at H
            have c159b0 : decide (t693 < 0) = false := decide_eq_false c159
            clear c159
            by_cases c169 : t693 = t691
            ·rw [if_pos c169] at H
             have c169b0 : (t693 == t691) = true := beq_iff_eq.mpr c169
             have c169b1 : (t693 != t691) = false := bne_eq_false_iff_eq.mpr c169
             clear c169
             replace H := Option.bind_eq_some_iff.mp H
             obtain ⟨t694, A1700, H⟩ := H
             replace H : ((laws_toTrie.f kj106 l1_0).bind fun t697 => ((impl_JoinTries.f kj106 t694 t697).bind fun bt700 => ((laws_eqTrie.f kj106 bt700.1 t659).bind fun t705 => (if t705 = true then (laws_FnExactJoinTries.j2 kj106 t691 (bt700.2 != t662) t692) else (laws_FnExactJoinTries.j2 kj106 t691 true t692))))) = some true := H
             have A170 := Aside0.mk A1700
             clear A1700
             replace H := Option.bind_eq_some_iff.mp H
             obtain ⟨t697, A1710, H⟩ := H
             replace H : ((impl_JoinTries.f kj106 t694 t697).bind fun bt700 => ((laws_eqTrie.f kj106 bt700.1 t659).bind fun t705 => (if t705 = true then (laws_FnExactJoinTries.j2 kj106 t691 (bt700.2 != t662) t692) else (laws_FnExactJoinTries.j2 kj106 t691 true t692)))) = some true := H
             have A171 := Aside0.mk A1710
             clear A1710
             replace H := Option.bind_eq_some_iff.mp H
             obtain ⟨⟨t700, t703⟩, A1720, H⟩ := H
             replace H : ((laws_eqTrie.f kj106 t700 t659).bind fun t705 => (if t705 = true then (laws_FnExactJoinTries.j2 kj106 t691 (t703 != t662) t692) else (laws_FnExactJoinTries.j2 kj106 t691 true t692))) = some true := H
             have A172 := Aside0.mk A1720
             clear A1720
             have HC173 := Aside0.mk H
             clear H
             have hnb174 := NB676_649.out
             have hnc174 := NB649_676.out
             have hnb175 := NB676_650.out
             have hnc175 := NB650_676.out
             have hnb176 := NB676_663.out
             have hnc176 := NB663_676.out
             have hnb177 := NB676_667.out
             have hnc177 := NB667_676.out
             have hnb178 := NB676_671.out
             have hnc178 := NB671_676.out
             have hcz179_0 : wc.cell? ⟨gb676, 0, none⟩ = some (.slice Ao65 t672.length co65) := (blk_cell BK676.out 0).trans rfl
             have hfz179_0 := blk_frozen BK676.out 0
             try go_wp2_with (first | ((with_reducible refine gate_callee (f := 19) rfl ?_); refine goesL_ (some 85) rfl rfl Tryd.func19 (by kernel_rfl) rfl #[.agg #[.slice Ao65 t672.length co65], .int .i64 1] rfl (by (try simp only [List.map_toArray, List.map_cons, List.map_nil]); first | done | rfl | (simp only [List.length_drop, List.length_take]; rfl)) ?_; (with_reducible refine (laws_markTrie.calls kj106 (fun k_ => some k_ = (.slice Ao65 t672.length co65 : Value).ownBlock) (.slice Ao65 t672.length co65) t672 1 t691 t692 w _ ?side1 ?side2 A157.out).mono ?_); (case side1 => repeat (first | (with_reducible first | exact HB.out | apply below_alloc | apply pw_below_drewN | apply below_drew1 | refine below_set ?_ GE649.out | refine below_set ?_ GE650.out | refine below_set ?_ GE663.out | refine below_set ?_ GE667.out | refine below_set ?_ GE671.out | refine below_set ?_ GE676.out) | exact HB.out)); (case side2 => exact Kd.R_tight rfl HO_677000.out); rintro e w180 ⟨rfl, hy0, hb, hkp⟩; refine ⟨_, rfl, ?_⟩; have n0_ := Aside0.mk (Kd.R_mono (ok' := fun k_ => some k_ ≠ (.slice Ao47 t687.length co47 : Value).ownBlock ∧ some k_ ≠ (.slice Ao56 t689.length co56 : Value).ownBlock ∧ some k_ ≠ (.slice Ao65 t672.length co65 : Value).ownBlock) (Kd.R_keptB (HO_664000.out) hkp (fun k_ hk_ hs_ => (hk_.2.2) hs_)) (fun k_ hk_ => ⟨hk_.1.1, hk_.1.2.1, hk_.1.2.2⟩)); have n1_ := Aside0.mk (Kd.R_mono (ok' := fun k_ => some k_ ≠ (.slice Ao41 t659.length co41 : Value).ownBlock ∧ some k_ ≠ (.slice Ao56 t689.length co56 : Value).ownBlock ∧ some k_ ≠ (.slice Ao65 t672.length co65 : Value).ownBlock) (Kd.R_keptB (HO_668000.out) hkp (fun k_ hk_ hs_ => (hk_.2.2) hs_)) (fun k_ hk_ => ⟨hk_.1.1, hk_.1.2.1, hk_.1.2.2⟩)); have n2_ := Aside0.mk (Kd.R_mono (ok' := fun k_ => some k_ ≠ (.slice Ao41 t659.length co41 : Value).ownBlock ∧ some k_ ≠ (.slice Ao47 t687.length co47 : Value).ownBlock ∧ some k_ ≠ (.slice Ao65 t672.length co65 : Value).ownBlock) (Kd.R_keptB (HO_672000.out) hkp (fun k_ hk_ hs_ => (hk_.2.2) hs_)) (fun k_ hk_ => ⟨hk_.1.1, hk_.1.2.1, hk_.1.2.2⟩)); have n3_ := Aside0.mk (Kd.R_reok rfl hy0 (fun k_ e_ => HO_677000.out.1 k_ e_)); have n4_ := Aside0.mk (blk_kept (by (with_reducible repeat (first | refine blk_drewN ?_ _ | refine blk_drew ?_ | refine blk_alloc ?_ _)); exact BK649.out) hkp (fun hs_ => (fun e_ => (Kd.R_ne HO_677000.out BK649.out (by decide)) e_) hs_)); have n5_ := Aside0.mk (blk_kept (by (with_reducible repeat (first | refine blk_drewN ?_ _ | refine blk_drew ?_ | refine blk_alloc ?_ _)); exact BK650.out) hkp (fun hs_ => (fun e_ => (Kd.R_ne HO_677000.out BK650.out (by decide)) e_) hs_)); have n6_ := Aside0.mk (blk_kept (by (with_reducible repeat (first | refine blk_drewN ?_ _ | refine blk_drew ?_ | refine blk_alloc ?_ _)); exact BK663.out) hkp (fun hs_ => (fun e_ => (Kd.R_ne HO_677000.out BK663.out (by decide)) e_) hs_)); have n7_ := Aside0.mk (blk_kept (by (with_reducible repeat (first | refine blk_drewN ?_ _ | refine blk_drew ?_ | refine blk_alloc ?_ _)); exact BK667.out) hkp (fun hs_ => (fun e_ => (Kd.R_ne HO_677000.out BK667.out (by decide)) e_) hs_)); have n8_ := Aside0.mk (blk_kept (by (with_reducible repeat (first | refine blk_drewN ?_ _ | refine blk_drew ?_ | refine blk_alloc ?_ _)); exact BK671.out) hkp (fun hs_ => (fun e_ => (Kd.R_ne HO_677000.out BK671.out (by decide)) e_) hs_)); have n9_ := Aside0.mk (blk_kept (by (with_reducible repeat (first | refine blk_drewN ?_ _ | refine blk_drew ?_ | refine blk_alloc ?_ _)); exact BK676.out) hkp (fun hs_ => (fun e_ => (Kd.R_ne HO_677000.out BK676.out (by decide)) e_) hs_)); have n10_ := Aside0.mk (hb); clear HO_664000; clear HO_668000; clear HO_672000; clear HO_677000; clear BK649; clear BK650; clear BK663; clear BK667; clear BK671; clear BK676; clear HB; have HO_664000 := n0_; have HO_668000 := n1_; have HO_672000 := n2_; have HO_677000 := n3_; have BK649 := n4_; have BK650 := n5_; have BK663 := n6_; have BK667 := n7_; have BK671 := n8_; have BK676 := n9_; have HB := n10_; clear n0_ n1_ n2_ n3_ n4_ n5_ n6_ n7_ n8_ n9_ n10_; (try clear hb); (try clear hkp); (try clear hy0); have hcz181_0 : w180.cell? ⟨gb676, 0, none⟩ = some (.slice Ao65 t672.length co65) := (blk_cell BK676.out 0).trans rfl; have hfz181_0 := blk_frozen BK676.out 0) | ((with_reducible refine gate_callee (f := 20) rfl ?_); refine goesL_ (some 88) rfl rfl Tryd.func20 (by kernel_rfl) rfl #[.agg #[.slice Ao65 t692.length co65], .int .i64 1] rfl (by (try simp only [List.map_toArray, List.map_cons, List.map_nil]); first | done | (rw [show t692.length = t672.length from (Kd.R_reads' HO_677000.out).1.symm] <;> rfl) | rfl | (simp only [List.length_drop, List.length_take]; rfl)) ?_; (with_reducible refine (laws_heldTrie.calls kj106 _ _ t692 1 t693 _ ?side1 ?side2 A158.out).mono ?_); (case side1 => repeat (first | exact (Kd.R_reads' HO_677000.out).2.2 | (with_reducible refine Kd.C_alloc ?_ _) | (with_reducible refine Kd.C_drewN ?_ _) | (with_reducible refine Kd.C_drew ?_))); (case side2 => rw [show t692.length = t672.length from (Kd.R_reads' HO_677000.out).1.symm]; exact (Kd.R_reads' HO_677000.out).2.1); rintro e w182 ⟨rfl, hb⟩; refine ⟨_, rfl, ?_⟩; have n0_ := Aside0.mk (Kd.R_below (by (with_reducible repeat (first | apply Kd.R_alloc | apply Kd.R_drewN | apply Kd.R_drew)); exact HO_664000.out) hb); have n1_ := Aside0.mk (Kd.R_below (by (with_reducible repeat (first | apply Kd.R_alloc | apply Kd.R_drewN | apply Kd.R_drew)); exact HO_668000.out) hb); have n2_ := Aside0.mk (Kd.R_below (by (with_reducible repeat (first | apply Kd.R_alloc | apply Kd.R_drewN | apply Kd.R_drew)); exact HO_672000.out) hb); have n3_ := Aside0.mk (Kd.R_below (by (with_reducible repeat (first | apply Kd.R_alloc | apply Kd.R_drewN | apply Kd.R_drew)); exact HO_677000.out) hb); have n4_ := Aside0.mk (blk_below (g := gb649) (o := .cells #[.slice A0_0 l0_0.length c0_0] 36 (0, 0)) (by (with_reducible repeat (first | refine blk_drewN ?_ _ | refine blk_drew ?_ | refine blk_alloc ?_ _)); exact BK649.out) hb); have n5_ := Aside0.mk (blk_below (g := gb650) (o := .cells #[.slice A1_0 l1_0.length c1_0] 36 (0, 0)) (by (with_reducible repeat (first | refine blk_drewN ?_ _ | refine blk_drew ?_ | refine blk_alloc ?_ _)); exact BK650.out) hb); have n6_ := Aside0.mk (blk_below (g := gb663) (o := .cells #[.slice Ao41 t659.length co41] 26 (0, 0)) (by (with_reducible repeat (first | refine blk_drewN ?_ _ | refine blk_drew ?_ | refine blk_alloc ?_ _)); exact BK663.out) hb); have n7_ := Aside0.mk (blk_below (g := gb667) (o := .cells #[.slice Ao47 t687.length co47] 26 (0, 0)) (by (with_reducible repeat (first | refine blk_drewN ?_ _ | refine blk_drew ?_ | refine blk_alloc ?_ _)); exact BK667.out) hb); have n8_ := Aside0.mk (blk_below (g := gb671) (o := .cells #[.slice Ao56 t689.length co56] 26 (0, 0)) (by (with_reducible repeat (first | refine blk_drewN ?_ _ | refine blk_drew ?_ | refine blk_alloc ?_ _)); exact BK671.out) hb); have n9_ := Aside0.mk (blk_below (g := gb676) (o := .cells #[.slice Ao65 t672.length co65] 26 (0, 0)) (by (with_reducible repeat (first | refine blk_drewN ?_ _ | refine blk_drew ?_ | refine blk_alloc ?_ _)); exact BK676.out) hb); have n10_ := Aside0.mk (below_step (by repeat (first | (with_reducible first | exact HB.out | apply below_alloc | apply pw_below_drewN | apply below_drew1 | refine below_set ?_ GE649.out | refine below_set ?_ GE650.out | refine below_set ?_ GE663.out | refine below_set ?_ GE667.out | refine below_set ?_ GE671.out | refine below_set ?_ GE676.out) | exact HB.out)) hb); clear HO_664000; clear HO_668000; clear HO_672000; clear HO_677000; clear BK649; clear BK650; clear BK663; clear BK667; clear BK671; clear BK676; clear HB; have HO_664000 := n0_; have HO_668000 := n1_; have HO_672000 := n2_; have HO_677000 := n3_; have BK649 := n4_; have BK650 := n5_; have BK663 := n6_; have BK667 := n7_; have BK671 := n8_; have BK676 := n9_; have HB := n10_; clear n0_ n1_ n2_ n3_ n4_ n5_ n6_ n7_ n8_ n9_ n10_; (try clear hb); (try clear hb2); (try clear hk); (try clear hi)))
             have n0_ := Aside0.mk (Kd.R_drew HO_664000.out)
             have n1_ := Aside0.mk (Kd.R_drew HO_668000.out)
             have n2_ := Aside0.mk (Kd.R_drew HO_672000.out)
             have n3_ := Aside0.mk (Kd.R_drew HO_677000.out)
             have n4_ := Aside0.mk (blk_drew BK649.out)
             have n5_ := Aside0.mk (blk_drew BK650.out)
             have n6_ := Aside0.mk (blk_drew BK663.out)
             have n7_ := Aside0.mk (blk_drew BK667.out)
             have n8_ := Aside0.mk (blk_drew BK671.out)
             have n9_ := Aside0.mk (blk_drew BK676.out)
             have n10_ := Aside0.mk (below_drew1 HB.out)
             revert n0_ n1_ n2_ n3_ n4_ n5_ n6_ n7_ n8_ n9_ n10_
             clear HO_664000 HO_668000 HO_672000 HO_677000 BK649 BK650 BK663 BK667 BK671 BK676 HB
             intro HO_664000 HO_668000 HO_672000 HO_677000 BK649 BK650 BK663 BK667 BK671 BK676 HB
             refine start_ (n := 11) (S := fun w' => w'.cell? ⟨gb649, 0, none⟩ = some (.slice A0_0 l0_0.length c0_0) ∧ w'.cell? ⟨gb650, 0, none⟩ = some (.slice A1_0 l1_0.length c1_0)) (ds := []) #[false, false, false, false, false, false, false, false, false, false, false] (by kernel_rfl) rfl rfl ⟨(blk_cell BK649.out 0).trans rfl, (blk_cell BK650.out 0).trans rfl⟩ (fun hHeld => ?_); refine with_tabW laws_FnExactJoinTries.tab31 laws_FnExactJoinTries.bits31 (fun HT_ HW_ => ?_)
             generalize w182.drew = w183 at HO_664000 HO_668000 HO_672000 HO_677000 BK649 BK650 BK663 BK667 BK671 BK676 HB hHeld ⊢
             refine take_ (i := 0) (N := some 95) (v := ?_) (a' := ?_) #[true, false, false, false, false, false, false, false, false, false, false] rfl rfl (take_ofW HT_.out HW_.out (by kernel_rfl)) (fun _ _ _ h => h) (Or.inl ⟨by rfl, ?_⟩) hHeld ?_ ?_
             rotate_left
             ·rintro w' ⟨s0, s1⟩
              go_simp
              with_reducible rfl
             rotate_left
             ·simp only [Act.put, List.setIfInBounds_toArray, List.set_cons_zero, List.set_cons_succ, i64_w, i32_w]
              rfl
             refine take_ (i := 2) (N := some 97) (v := ?_) (a' := ?_) #[true, false, true, false, false, false, false, false, false, false, false] rfl rfl (take_ofW HT_.out HW_.out (by kernel_rfl)) (fun _ _ _ h => h) (Or.inl ⟨by rfl, ?_⟩) hHeld ?_ ?_
             rotate_left
             ·rintro w' ⟨s0, s1⟩
              go_simp
              with_reducible rfl
             rotate_left
             ·simp only [Act.put, List.setIfInBounds_toArray, List.set_cons_zero, List.set_cons_succ, i64_w, i32_w]
              rfl
             refine join_ (σ := Value × Value × Value × Nat) 2 #[true, true, true, true, true, true, true, true, true, false, false] (fun s_ => [(96, .agg #[s_.1]), (98, .agg #[s_.2.1]), (99, .tuple #[.agg #[s_.2.2.1], .bool t703]), (15, .pointer (some ⟨s_.2.2.2, 0, none⟩)), (94, .tuple #[.agg #[s_.2.2.1], .bool t703]), (100, .agg #[s_.2.2.1]), (101, .bool t703)]) (fun s_ w' => (w'.cell? ⟨gb649, 0, none⟩ = some (.slice A0_0 l0_0.length c0_0) ∧ w'.cell? ⟨gb650, 0, none⟩ = some (.slice A1_0 l1_0.length c1_0)) ∧ (Kd.R k76 76 w' w.heap.size (fun k_ => some k_ ≠ (s_.2.1 : Value).ownBlock ∧ some k_ ≠ (s_.2.2.1 : Value).ownBlock ∧ some k_ ≠ (.slice Ao41 t659.length co41 : Value).ownBlock ∧ some k_ ≠ (.slice Ao47 t687.length co47 : Value).ownBlock ∧ some k_ ≠ (.slice Ao56 t689.length co56 : Value).ownBlock ∧ some k_ ≠ (.slice Ao65 t672.length co65 : Value).ownBlock) s_.1 t694) ∧ (Kd.R k76 76 w' w.heap.size (fun k_ => some k_ ≠ (s_.1 : Value).ownBlock ∧ some k_ ≠ (s_.2.2.1 : Value).ownBlock ∧ some k_ ≠ (.slice Ao41 t659.length co41 : Value).ownBlock ∧ some k_ ≠ (.slice Ao47 t687.length co47 : Value).ownBlock ∧ some k_ ≠ (.slice Ao56 t689.length co56 : Value).ownBlock ∧ some k_ ≠ (.slice Ao65 t672.length co65 : Value).ownBlock) s_.2.1 t697) ∧ (Kd.R k76 76 w' w.heap.size (fun k_ => some k_ ≠ (s_.1 : Value).ownBlock ∧ some k_ ≠ (s_.2.1 : Value).ownBlock ∧ some k_ ≠ (.slice Ao41 t659.length co41 : Value).ownBlock ∧ some k_ ≠ (.slice Ao47 t687.length co47 : Value).ownBlock ∧ some k_ ≠ (.slice Ao56 t689.length co56 : Value).ownBlock ∧ some k_ ≠ (.slice Ao65 t672.length co65 : Value).ownBlock) s_.2.2.1 t700) ∧ (Kd.R k76 76 w' w.heap.size (fun k_ => some k_ ≠ (s_.1 : Value).ownBlock ∧ some k_ ≠ (s_.2.1 : Value).ownBlock ∧ some k_ ≠ (s_.2.2.1 : Value).ownBlock ∧ some k_ ≠ (.slice Ao47 t687.length co47 : Value).ownBlock ∧ some k_ ≠ (.slice Ao56 t689.length co56 : Value).ownBlock ∧ some k_ ≠ (.slice Ao65 t672.length co65 : Value).ownBlock) (.slice Ao41 t659.length co41) t659) ∧ (Kd.R k76 76 w' w.heap.size (fun k_ => some k_ ≠ (s_.1 : Value).ownBlock ∧ some k_ ≠ (s_.2.1 : Value).ownBlock ∧ some k_ ≠ (s_.2.2.1 : Value).ownBlock ∧ some k_ ≠ (.slice Ao41 t659.length co41 : Value).ownBlock ∧ some k_ ≠ (.slice Ao56 t689.length co56 : Value).ownBlock ∧ some k_ ≠ (.slice Ao65 t672.length co65 : Value).ownBlock) (.slice Ao47 t687.length co47) t687) ∧ (Kd.R k76 76 w' w.heap.size (fun k_ => some k_ ≠ (s_.1 : Value).ownBlock ∧ some k_ ≠ (s_.2.1 : Value).ownBlock ∧ some k_ ≠ (s_.2.2.1 : Value).ownBlock ∧ some k_ ≠ (.slice Ao41 t659.length co41 : Value).ownBlock ∧ some k_ ≠ (.slice Ao47 t687.length co47 : Value).ownBlock ∧ some k_ ≠ (.slice Ao65 t672.length co65 : Value).ownBlock) (.slice Ao56 t689.length co56) t689) ∧ (Kd.R k76 76 w' w.heap.size (fun k_ => some k_ ≠ (s_.1 : Value).ownBlock ∧ some k_ ≠ (s_.2.1 : Value).ownBlock ∧ some k_ ≠ (s_.2.2.1 : Value).ownBlock ∧ some k_ ≠ (.slice Ao41 t659.length co41 : Value).ownBlock ∧ some k_ ≠ (.slice Ao47 t687.length co47 : Value).ownBlock ∧ some k_ ≠ (.slice Ao56 t689.length co56 : Value).ownBlock) (.slice Ao65 t672.length co65) t692) ∧ (w'.heap[gb649]? = some (.cells #[.slice A0_0 l0_0.length c0_0] 36 (0, 0))) ∧ (w'.heap[gb650]? = some (.cells #[.slice A1_0 l1_0.length c1_0] 36 (0, 0))) ∧ (w'.heap[gb663]? = some (.cells #[.slice Ao41 t659.length co41] 26 (0, 0))) ∧ (w'.heap[gb667]? = some (.cells #[.slice Ao47 t687.length co47] 26 (0, 0))) ∧ (w'.heap[gb671]? = some (.cells #[.slice Ao56 t689.length co56] 26 (0, 0))) ∧ (w'.heap[gb676]? = some (.cells #[.slice Ao65 t672.length co65] 26 (0, 0))) ∧ (w'.heap[s_.2.2.2]? = some (.cells #[.slice none 0 0] 26 (0, 0))) ∧ (w.heap.size ≤ s_.2.2.2) ∧ (w.heap.size ≤ s_.2.2.2) ∧ (gb649 ≠ s_.2.2.2) ∧ (s_.2.2.2 ≠ gb649) ∧ (gb650 ≠ s_.2.2.2) ∧ (s_.2.2.2 ≠ gb650) ∧ (gb663 ≠ s_.2.2.2) ∧ (s_.2.2.2 ≠ gb663) ∧ (gb667 ≠ s_.2.2.2) ∧ (s_.2.2.2 ≠ gb667) ∧ (gb671 ≠ s_.2.2.2) ∧ (s_.2.2.2 ≠ gb671) ∧ (gb676 ≠ s_.2.2.2) ∧ (s_.2.2.2 ≠ gb676) ∧ (Below w.heap.size w w')) ?_ ?_
             rotate_left
             ·intro hCont
              refine two_ (i := 1) (j := 8) (Ni := some 96) (Nj := some 15) #[true, true, true, false, false, false, false, false, false, false, false] #[true, false, true, false, false, false, false, false, true, false, false] rfl rfl rfl rfl (two_of HT_.out (by kernel_rfl)) (by decide) (by decide) (fun K hK => ?_) (fun K hK => ?_)
              ·skip
               refine goes_ Tryd.func23 (by kernel_rfl) rfl #[.agg #[.slice A0_0 l0_0.length c0_0]] (by rfl) rfl rfl (by (try simp only [List.map_toArray, List.map_cons, List.map_nil]); first | done | rfl | (simp only [List.length_drop, List.length_take]; rfl)) ?_
               with_reducible refine (laws_toTrie.calls kj106 _ _ l0_0 t694 _ ?side1 ?side2 A170.out).mono ?_
               (case side1 => exact (Kd.C_below HR0_0.out HB.out))
               (case side2 => exact HC0_0.out)
               rintro e w184 ⟨v695, rfl, ho0, hb⟩
               refine ⟨_, rfl, ?_⟩
               have n0_ := Aside0.mk (Kd.R_elder' HO_664000.out (Kd.R_base ho0) hb)
               have n1_ := Aside0.mk (Kd.R_elder' HO_668000.out (Kd.R_base ho0) hb)
               have n2_ := Aside0.mk (Kd.R_elder' HO_672000.out (Kd.R_base ho0) hb)
               have n3_ := Aside0.mk (Kd.R_elder' HO_677000.out (Kd.R_base ho0) hb)
               have n4_ := Aside0.mk (Kd.R_lower (Kd.R_new' (Kd.R_new' (Kd.R_new' (Kd.R_new' ho0 (Kd.R_lt HO_664000.out)) (Kd.R_lt HO_668000.out)) (Kd.R_lt HO_672000.out)) (Kd.R_lt HO_677000.out)) (below_size HB.out))
               have n5_ := Aside0.mk (blk_below BK649.out hb)
               have n6_ := Aside0.mk (blk_below BK650.out hb)
               have n7_ := Aside0.mk (blk_below BK663.out hb)
               have n8_ := Aside0.mk (blk_below BK667.out hb)
               have n9_ := Aside0.mk (blk_below BK671.out hb)
               have n10_ := Aside0.mk (blk_below BK676.out hb)
               have n11_ := Aside0.mk (below_step HB.out hb)
               revert n0_ n1_ n2_ n3_ n4_ n5_ n6_ n7_ n8_ n9_ n10_ n11_
               clear HO_664000 HO_668000 HO_672000 HO_677000 BK649 BK650 BK663 BK667 BK671 BK676 HB
               intro HO_664000 HO_668000 HO_672000 HO_677000 HO696 BK649 BK650 BK663 BK667 BK671 BK676 HB
               (try clear hb)
               (try clear hb2)
               (try clear hk)
               (try clear hi)
               (try clear ho0)
               refine hK.out _ _ ⟨(blk_cell BK649.out 0).trans rfl, (blk_cell BK650.out 0).trans rfl⟩ (fun hHeld => ?_)
               clear hK K
               refine norm_ (a' := ?_) ?_ ?_
               rotate_left
               ·show Act.put _ (some 96) _ = _
                simp only [Act.put, List.setIfInBounds_toArray, List.set_cons_zero, List.set_cons_succ, i64_w, i32_w]
                rfl
               refine two_ (i := 3) (j := 8) (Ni := some 98) (Nj := some 15) #[true, true, true, true, false, false, false, false, false, false, false] #[true, true, true, false, false, false, false, false, true, false, false] rfl rfl rfl rfl (two_of HT_.out (by kernel_rfl)) (by decide) (by decide) (fun K hK => ?_) (fun K hK => ?_)
               ·skip
                refine goes_ Tryd.func23 (by kernel_rfl) rfl #[.agg #[.slice A1_0 l1_0.length c1_0]] (by rfl) rfl rfl (by (try simp only [List.map_toArray, List.map_cons, List.map_nil]); first | done | rfl | (simp only [List.length_drop, List.length_take]; rfl)) ?_
                with_reducible refine (laws_toTrie.calls kj106 _ _ l1_0 t697 _ ?side1 ?side2 A171.out).mono ?_
                (case side1 => exact (Kd.C_below HR1_0.out HB.out))
                (case side2 => exact HC1_0.out)
                rintro e w185 ⟨v698, rfl, ho0, hb⟩
                refine ⟨_, rfl, ?_⟩
                have n0_ := Aside0.mk (Kd.R_elder' HO_664000.out (Kd.R_base ho0) hb)
                have n1_ := Aside0.mk (Kd.R_elder' HO_668000.out (Kd.R_base ho0) hb)
                have n2_ := Aside0.mk (Kd.R_elder' HO_672000.out (Kd.R_base ho0) hb)
                have n3_ := Aside0.mk (Kd.R_elder' HO_677000.out (Kd.R_base ho0) hb)
                have n4_ := Aside0.mk (Kd.R_elder' HO696.out (Kd.R_base ho0) hb)
                have n5_ := Aside0.mk (Kd.R_lower (Kd.R_new' (Kd.R_new' (Kd.R_new' (Kd.R_new' (Kd.R_new' ho0 (Kd.R_lt HO_664000.out)) (Kd.R_lt HO_668000.out)) (Kd.R_lt HO_672000.out)) (Kd.R_lt HO_677000.out)) (Kd.R_lt HO696.out)) (below_size HB.out))
                have n6_ := Aside0.mk (blk_below BK649.out hb)
                have n7_ := Aside0.mk (blk_below BK650.out hb)
                have n8_ := Aside0.mk (blk_below BK663.out hb)
                have n9_ := Aside0.mk (blk_below BK667.out hb)
                have n10_ := Aside0.mk (blk_below BK671.out hb)
                have n11_ := Aside0.mk (blk_below BK676.out hb)
                have n12_ := Aside0.mk (below_step HB.out hb)
                revert n0_ n1_ n2_ n3_ n4_ n5_ n6_ n7_ n8_ n9_ n10_ n11_ n12_
                clear HO_664000 HO_668000 HO_672000 HO_677000 HO696 BK649 BK650 BK663 BK667 BK671 BK676 HB
                intro HO_664000 HO_668000 HO_672000 HO_677000 HO696 HO699 BK649 BK650 BK663 BK667 BK671 BK676 HB
                (try clear hb)
                (try clear hb2)
                (try clear hk)
                (try clear hi)
                (try clear ho0)
                obtain ⟨Ao186, co186, eo186⟩ := Kd.R_slice HO696.out
                (first | subst eo186 | (injection eo186 with f1_ f2_ f3_; have f4_ := f1_.symm; have f5_ := f3_.symm; clear f1_ f2_ f3_; subst f4_; subst f5_))
                obtain ⟨Ao187, co187, eo187⟩ := Kd.R_slice HO699.out
                (first | subst eo187 | (injection eo187 with f1_ f2_ f3_; have f4_ := f1_.symm; have f5_ := f3_.symm; clear f1_ f2_ f3_; subst f4_; subst f5_))
                refine hK.out _ _ ⟨(blk_cell BK649.out 0).trans rfl, (blk_cell BK650.out 0).trans rfl⟩ (fun hHeld => ?_)
                clear hK K
                refine norm_ (a' := ?_) ?_ ?_
                rotate_left
                ·show Act.put _ (some 98) _ = _
                 simp only [Act.put, List.setIfInBounds_toArray, List.set_cons_zero, List.set_cons_succ, i64_w, i32_w]
                 rfl
                refine two_ (i := 4) (j := 8) (Ni := some 99) (Nj := some 15) #[true, true, true, true, true, false, false, false, false, false, false] #[true, true, true, true, false, false, false, false, true, false, false] rfl rfl rfl rfl (two_of HT_.out (by kernel_rfl)) (by decide) (by decide) (fun K hK => ?_) (fun K hK => ?_)
                ·skip
                 refine goes_ Tryd.func32 (by kernel_rfl) rfl #[.agg #[.slice Ao186 t694.length co186], .agg #[.slice Ao187 t697.length co187]] (by rfl) rfl rfl (by (try simp only [List.map_toArray, List.map_cons, List.map_nil]); first | done | rfl | (simp only [List.length_drop, List.length_take]; rfl)) ?_
                 with_reducible refine (impl_JoinTries.calls kj106 _ _ t694 _ _ t697 t700 t703 _ ?side1 ?side2 ?side3 ?side4 A172.out).mono ?_
                 (case side1 => exact (Kd.R_reads' HO696.out).2.2)
                 (case side2 => exact (Kd.R_reads' HO696.out).2.1)
                 (case side3 => exact (Kd.R_reads' HO699.out).2.2)
                 (case side4 => exact (Kd.R_reads' HO699.out).2.1)
                 rintro e w188 ⟨v701, rfl, ho0, hb⟩
                 refine ⟨_, rfl, ?_⟩
                 have n0_ := Aside0.mk (Kd.R_elder' HO_664000.out (Kd.R_base ho0) hb)
                 have n1_ := Aside0.mk (Kd.R_elder' HO_668000.out (Kd.R_base ho0) hb)
                 have n2_ := Aside0.mk (Kd.R_elder' HO_672000.out (Kd.R_base ho0) hb)
                 have n3_ := Aside0.mk (Kd.R_elder' HO_677000.out (Kd.R_base ho0) hb)
                 have n4_ := Aside0.mk (Kd.R_elder' HO696.out (Kd.R_base ho0) hb)
                 have n5_ := Aside0.mk (Kd.R_elder' HO699.out (Kd.R_base ho0) hb)
                 have n6_ := Aside0.mk (Kd.R_lower (Kd.R_new' (Kd.R_new' (Kd.R_new' (Kd.R_new' (Kd.R_new' (Kd.R_new' ho0 (Kd.R_lt HO_664000.out)) (Kd.R_lt HO_668000.out)) (Kd.R_lt HO_672000.out)) (Kd.R_lt HO_677000.out)) (Kd.R_lt HO696.out)) (Kd.R_lt HO699.out)) (below_size HB.out))
                 have n7_ := Aside0.mk (blk_below BK649.out hb)
                 have n8_ := Aside0.mk (blk_below BK650.out hb)
                 have n9_ := Aside0.mk (blk_below BK663.out hb)
                 have n10_ := Aside0.mk (blk_below BK667.out hb)
                 have n11_ := Aside0.mk (blk_below BK671.out hb)
                 have n12_ := Aside0.mk (blk_below BK676.out hb)
                 have n13_ := Aside0.mk (below_step HB.out hb)
                 revert n0_ n1_ n2_ n3_ n4_ n5_ n6_ n7_ n8_ n9_ n10_ n11_ n12_ n13_
                 clear HO_664000 HO_668000 HO_672000 HO_677000 HO696 HO699 BK649 BK650 BK663 BK667 BK671 BK676 HB
                 intro HO_664000 HO_668000 HO_672000 HO_677000 HO696 HO699 HO702 BK649 BK650 BK663 BK667 BK671 BK676 HB
                 (try clear hb)
                 (try clear hb2)
                 (try clear hk)
                 (try clear hi)
                 (try clear ho0)
                 refine hK.out _ _ ⟨(blk_cell BK649.out 0).trans rfl, (blk_cell BK650.out 0).trans rfl⟩ (fun hHeld => ?_)
                 clear hK K
                 refine norm_ (a' := ?_) ?_ ?_
                 rotate_left
                 ·show Act.put _ (some 99) _ = _
                  simp only [Act.put, List.setIfInBounds_toArray, List.set_cons_zero, List.set_cons_succ, i64_w, i32_w]
                  rfl
                 refine pure_ (i := 5) (N := some 94) (v := ?_) (a' := ?_) #[true, true, true, true, true, true, false, false, false, false, false] rfl rfl (any_of HT_.out (by kernel_rfl)) (fun _ _ _ h => h) (Or.inl ⟨by rfl, ?_⟩) ?_ ?_
                 rotate_left
                 ·intro w'
                  go_simp
                  with_reducible rfl
                 rotate_left
                 ·simp only [Act.put, List.setIfInBounds_toArray, List.set_cons_zero, List.set_cons_succ, i64_w, i32_w]
                  rfl
                 refine pure_ (i := 6) (N := some 100) (v := ?_) (a' := ?_) #[true, true, true, true, true, true, true, false, false, false, false] rfl rfl (any_of HT_.out (by kernel_rfl)) (fun _ _ _ h => h) (Or.inl ⟨by rfl, ?_⟩) ?_ ?_
                 rotate_left
                 ·intro w'
                  go_simp
                  with_reducible rfl
                 rotate_left
                 ·simp only [Act.put, List.setIfInBounds_toArray, List.set_cons_zero, List.set_cons_succ, i64_w, i32_w]
                  rfl
                 refine pure_ (i := 7) (N := some 101) (v := ?_) (a' := ?_) #[true, true, true, true, true, true, true, true, false, false, false] rfl rfl (any_of HT_.out (by kernel_rfl)) (fun _ _ _ h => h) (Or.inl ⟨by rfl, ?_⟩) ?_ ?_
                 rotate_left
                 ·intro w'
                  go_simp
                  with_reducible rfl
                 rotate_left
                 ·simp only [Act.put, List.setIfInBounds_toArray, List.set_cons_zero, List.set_cons_succ, i64_w, i32_w]
                  rfl
                 refine one_ (i := 8) (N := some 15) #[true, true, true, true, true, true, true, true, true, false, false] rfl rfl (one_of HT_.out (by kernel_rfl)) (by decide) (fun K hK => ?_)
                 refine box_step ?hg (N := 15) ?hd (cs := #[.slice none 0 0]) (t := 26) ?hr ?_; (case hd => rfl); (case hg => rfl); (case hr => first | (go_simp; done) | (go_simp; rfl))
                 intro gb704 hg w189 hbox hb
                 have n0_ := Aside0.mk (Kd.R_below HO_664000.out hb)
                 have n1_ := Aside0.mk (Kd.R_below HO_668000.out hb)
                 have n2_ := Aside0.mk (Kd.R_below HO_672000.out hb)
                 have n3_ := Aside0.mk (Kd.R_below HO_677000.out hb)
                 have n4_ := Aside0.mk (Kd.R_below HO696.out hb)
                 have n5_ := Aside0.mk (Kd.R_below HO699.out hb)
                 have n6_ := Aside0.mk (Kd.R_below HO702.out hb)
                 have n7_ := Aside0.mk (blk_below BK649.out hb)
                 have n8_ := Aside0.mk (blk_below BK650.out hb)
                 have n9_ := Aside0.mk (blk_below BK663.out hb)
                 have n10_ := Aside0.mk (blk_below BK667.out hb)
                 have n11_ := Aside0.mk (blk_below BK671.out hb)
                 have n12_ := Aside0.mk (blk_below BK676.out hb)
                 have n13_ := Aside0.mk (below_step HB.out hb)
                 have n14_ := Aside0.mk (hbox)
                 have n15_ := Aside0.mk ((by rw [hg]; exact (below_size HB.out) : w.heap.size ≤ gb704))
                 have n16_ := Aside0.mk ((by rw [hg]; exact (below_size HB.out) : w.heap.size ≤ gb704))
                 have n17_ := Aside0.mk ((by rw [hg]; exact Nat.ne_of_lt (blk_lt BK649.out) : gb649 ≠ gb704))
                 have n18_ := Aside0.mk ((by rw [hg]; exact Nat.ne_of_gt (blk_lt BK649.out) : gb704 ≠ gb649))
                 have n19_ := Aside0.mk ((by rw [hg]; exact Nat.ne_of_lt (blk_lt BK650.out) : gb650 ≠ gb704))
                 have n20_ := Aside0.mk ((by rw [hg]; exact Nat.ne_of_gt (blk_lt BK650.out) : gb704 ≠ gb650))
                 have n21_ := Aside0.mk ((by rw [hg]; exact Nat.ne_of_lt (blk_lt BK663.out) : gb663 ≠ gb704))
                 have n22_ := Aside0.mk ((by rw [hg]; exact Nat.ne_of_gt (blk_lt BK663.out) : gb704 ≠ gb663))
                 have n23_ := Aside0.mk ((by rw [hg]; exact Nat.ne_of_lt (blk_lt BK667.out) : gb667 ≠ gb704))
                 have n24_ := Aside0.mk ((by rw [hg]; exact Nat.ne_of_gt (blk_lt BK667.out) : gb704 ≠ gb667))
                 have n25_ := Aside0.mk ((by rw [hg]; exact Nat.ne_of_lt (blk_lt BK671.out) : gb671 ≠ gb704))
                 have n26_ := Aside0.mk ((by rw [hg]; exact Nat.ne_of_gt (blk_lt BK671.out) : gb704 ≠ gb671))
                 have n27_ := Aside0.mk ((by rw [hg]; exact Nat.ne_of_lt (blk_lt BK676.out) : gb676 ≠ gb704))
                 have n28_ := Aside0.mk ((by rw [hg]; exact Nat.ne_of_gt (blk_lt BK676.out) : gb704 ≠ gb676))
                 revert n0_ n1_ n2_ n3_ n4_ n5_ n6_ n7_ n8_ n9_ n10_ n11_ n12_ n13_ n14_ n15_ n16_ n17_ n18_ n19_ n20_ n21_ n22_ n23_ n24_ n25_ n26_ n27_ n28_
                 clear HO_664000 HO_668000 HO_672000 HO_677000 HO696 HO699 HO702 BK649 BK650 BK663 BK667 BK671 BK676 HB
                 intro HO_664000 HO_668000 HO_672000 HO_677000 HO696 HO699 HO702 BK649 BK650 BK663 BK667 BK671 BK676 HB BK704 GW704 GE704 NB649_704 NB704_649 NB650_704 NB704_650 NB663_704 NB704_663 NB667_704 NB704_667 NB671_704 NB704_671 NB676_704 NB704_676
                 clear hb hbox hg
                 refine hK.out _ _ ⟨(blk_cell BK649.out 0).trans rfl, (blk_cell BK650.out 0).trans rfl⟩ (fun hHeld => ?_)
                 clear hK K
                 refine norm_ (a' := ?_) ?_ ?_
                 rotate_left
                 ·show Act.put _ (some 15) _ = _
                  simp only [Act.put, List.setIfInBounds_toArray, List.set_cons_zero, List.set_cons_succ, i64_w, i32_w]
                  rfl
                 exact norm_ (by simp only [putAll, Act.put, List.setIfInBounds_toArray, List.set_cons_zero, List.set_cons_succ]) (hCont (.slice Ao186 t694.length co186, .slice Ao187 t697.length co187, v701, gb704) _ ⟨hHeld, (Kd.R_mono HO696.out (fun _ hk => ⟨hk.1.2, ⟨hk.2, ⟨hk.1.1.1.1.1.2, ⟨hk.1.1.1.1.2, ⟨hk.1.1.1.2, hk.1.1.2⟩⟩⟩⟩⟩)), (Kd.R_mono HO699.out (fun _ hk => ⟨hk.1.2, ⟨hk.2, ⟨hk.1.1.1.1.1.2, ⟨hk.1.1.1.1.2, ⟨hk.1.1.1.2, hk.1.1.2⟩⟩⟩⟩⟩)), (Kd.R_mono HO702.out (fun _ hk => ⟨hk.1.2, ⟨hk.2, ⟨hk.1.1.1.1.1.2, ⟨hk.1.1.1.1.2, ⟨hk.1.1.1.2, hk.1.1.2⟩⟩⟩⟩⟩)), (Kd.R_mono HO_664000.out (fun _ hk => ⟨hk.1.1.2, ⟨hk.1.2, ⟨hk.2, ⟨hk.1.1.1.1, ⟨hk.1.1.1.2.1, hk.1.1.1.2.2⟩⟩⟩⟩⟩)), (Kd.R_mono HO_668000.out (fun _ hk => ⟨hk.1.1.2, ⟨hk.1.2, ⟨hk.2, ⟨hk.1.1.1.1, ⟨hk.1.1.1.2.1, hk.1.1.1.2.2⟩⟩⟩⟩⟩)), (Kd.R_mono HO_672000.out (fun _ hk => ⟨hk.1.1.2, ⟨hk.1.2, ⟨hk.2, ⟨hk.1.1.1.1, ⟨hk.1.1.1.2.1, hk.1.1.1.2.2⟩⟩⟩⟩⟩)), (Kd.R_mono HO_677000.out (fun _ hk => ⟨hk.1.1.2, ⟨hk.1.2, ⟨hk.2, ⟨hk.1.1.1.1, ⟨hk.1.1.1.2.1, hk.1.1.1.2.2⟩⟩⟩⟩⟩)), BK649.out, BK650.out, BK663.out, BK667.out, BK671.out, BK676.out, BK704.out, GW704.out, GE704.out, NB649_704.out, NB704_649.out, NB650_704.out, NB704_650.out, NB663_704.out, NB704_663.out, NB667_704.out, NB704_667.out, NB671_704.out, NB704_671.out, NB676_704.out, NB704_676.out, HB.out⟩)
                ·skip
                 refine box_step ?hg (N := 15) ?hd (cs := #[.slice none 0 0]) (t := 26) ?hr ?_; (case hd => rfl); (case hg => rfl); (case hr => first | (go_simp; done) | (go_simp; rfl))
                 intro gb704 hg w186 hbox hb
                 have n0_ := Aside0.mk (Kd.R_below HO_664000.out hb)
                 have n1_ := Aside0.mk (Kd.R_below HO_668000.out hb)
                 have n2_ := Aside0.mk (Kd.R_below HO_672000.out hb)
                 have n3_ := Aside0.mk (Kd.R_below HO_677000.out hb)
                 have n4_ := Aside0.mk (Kd.R_below HO696.out hb)
                 have n5_ := Aside0.mk (Kd.R_below HO699.out hb)
                 have n6_ := Aside0.mk (blk_below BK649.out hb)
                 have n7_ := Aside0.mk (blk_below BK650.out hb)
                 have n8_ := Aside0.mk (blk_below BK663.out hb)
                 have n9_ := Aside0.mk (blk_below BK667.out hb)
                 have n10_ := Aside0.mk (blk_below BK671.out hb)
                 have n11_ := Aside0.mk (blk_below BK676.out hb)
                 have n12_ := Aside0.mk (below_step HB.out hb)
                 have n13_ := Aside0.mk (hbox)
                 have n14_ := Aside0.mk ((by rw [hg]; exact (below_size HB.out) : w.heap.size ≤ gb704))
                 have n15_ := Aside0.mk ((by rw [hg]; exact (below_size HB.out) : w.heap.size ≤ gb704))
                 have n16_ := Aside0.mk ((by rw [hg]; exact Nat.ne_of_lt (blk_lt BK649.out) : gb649 ≠ gb704))
                 have n17_ := Aside0.mk ((by rw [hg]; exact Nat.ne_of_gt (blk_lt BK649.out) : gb704 ≠ gb649))
                 have n18_ := Aside0.mk ((by rw [hg]; exact Nat.ne_of_lt (blk_lt BK650.out) : gb650 ≠ gb704))
                 have n19_ := Aside0.mk ((by rw [hg]; exact Nat.ne_of_gt (blk_lt BK650.out) : gb704 ≠ gb650))
                 have n20_ := Aside0.mk ((by rw [hg]; exact Nat.ne_of_lt (blk_lt BK663.out) : gb663 ≠ gb704))
                 have n21_ := Aside0.mk ((by rw [hg]; exact Nat.ne_of_gt (blk_lt BK663.out) : gb704 ≠ gb663))
                 have n22_ := Aside0.mk ((by rw [hg]; exact Nat.ne_of_lt (blk_lt BK667.out) : gb667 ≠ gb704))
                 have n23_ := Aside0.mk ((by rw [hg]; exact Nat.ne_of_gt (blk_lt BK667.out) : gb704 ≠ gb667))
                 have n24_ := Aside0.mk ((by rw [hg]; exact Nat.ne_of_lt (blk_lt BK671.out) : gb671 ≠ gb704))
                 have n25_ := Aside0.mk ((by rw [hg]; exact Nat.ne_of_gt (blk_lt BK671.out) : gb704 ≠ gb671))
                 have n26_ := Aside0.mk ((by rw [hg]; exact Nat.ne_of_lt (blk_lt BK676.out) : gb676 ≠ gb704))
                 have n27_ := Aside0.mk ((by rw [hg]; exact Nat.ne_of_gt (blk_lt BK676.out) : gb704 ≠ gb676))
                 revert n0_ n1_ n2_ n3_ n4_ n5_ n6_ n7_ n8_ n9_ n10_ n11_ n12_ n13_ n14_ n15_ n16_ n17_ n18_ n19_ n20_ n21_ n22_ n23_ n24_ n25_ n26_ n27_
                 clear HO_664000 HO_668000 HO_672000 HO_677000 HO696 HO699 BK649 BK650 BK663 BK667 BK671 BK676 HB
                 intro HO_664000 HO_668000 HO_672000 HO_677000 HO696 HO699 BK649 BK650 BK663 BK667 BK671 BK676 HB BK704 GW704 GE704 NB649_704 NB704_649 NB650_704 NB704_650 NB663_704 NB704_663 NB667_704 NB704_667 NB671_704 NB704_671 NB676_704 NB704_676
                 clear hb hbox hg
                 obtain ⟨Ao187, co187, eo187⟩ := Kd.R_slice HO696.out
                 (first | subst eo187 | (injection eo187 with f1_ f2_ f3_; have f4_ := f1_.symm; have f5_ := f3_.symm; clear f1_ f2_ f3_; subst f4_; subst f5_))
                 obtain ⟨Ao188, co188, eo188⟩ := Kd.R_slice HO699.out
                 (first | subst eo188 | (injection eo188 with f1_ f2_ f3_; have f4_ := f1_.symm; have f5_ := f3_.symm; clear f1_ f2_ f3_; subst f4_; subst f5_))
                 refine hK.out _ _ ⟨(blk_cell BK649.out 0).trans rfl, (blk_cell BK650.out 0).trans rfl⟩ (fun hHeld => ?_)
                 clear hK K
                 refine norm_ (a' := ?_) ?_ ?_
                 rotate_left
                 ·show Act.put _ (some 15) _ = _
                  simp only [Act.put, List.setIfInBounds_toArray, List.set_cons_zero, List.set_cons_succ, i64_w, i32_w]
                  rfl
                 refine one_ (i := 4) (N := some 99) #[true, true, true, true, true, false, false, false, true, false, false] rfl rfl (one_of HT_.out (by kernel_rfl)) (by decide) (fun K hK => ?_)
                 refine goes_ Tryd.func32 (by kernel_rfl) rfl #[.agg #[.slice Ao187 t694.length co187], .agg #[.slice Ao188 t697.length co188]] (by rfl) rfl rfl (by (try simp only [List.map_toArray, List.map_cons, List.map_nil]); first | done | rfl | (simp only [List.length_drop, List.length_take]; rfl)) ?_
                 with_reducible refine (impl_JoinTries.calls kj106 _ _ t694 _ _ t697 t700 t703 _ ?side1 ?side2 ?side3 ?side4 A172.out).mono ?_
                 (case side1 => exact (Kd.R_reads' HO696.out).2.2)
                 (case side2 => exact (Kd.R_reads' HO696.out).2.1)
                 (case side3 => exact (Kd.R_reads' HO699.out).2.2)
                 (case side4 => exact (Kd.R_reads' HO699.out).2.1)
                 rintro e w189 ⟨v701, rfl, ho0, hb⟩
                 refine ⟨_, rfl, ?_⟩
                 have n0_ := Aside0.mk (Kd.R_elder' HO_664000.out (Kd.R_base ho0) hb)
                 have n1_ := Aside0.mk (Kd.R_elder' HO_668000.out (Kd.R_base ho0) hb)
                 have n2_ := Aside0.mk (Kd.R_elder' HO_672000.out (Kd.R_base ho0) hb)
                 have n3_ := Aside0.mk (Kd.R_elder' HO_677000.out (Kd.R_base ho0) hb)
                 have n4_ := Aside0.mk (Kd.R_elder' HO696.out (Kd.R_base ho0) hb)
                 have n5_ := Aside0.mk (Kd.R_elder' HO699.out (Kd.R_base ho0) hb)
                 have n6_ := Aside0.mk (Kd.R_lower (Kd.R_new' (Kd.R_new' (Kd.R_new' (Kd.R_new' (Kd.R_new' (Kd.R_new' ho0 (Kd.R_lt HO_664000.out)) (Kd.R_lt HO_668000.out)) (Kd.R_lt HO_672000.out)) (Kd.R_lt HO_677000.out)) (Kd.R_lt HO696.out)) (Kd.R_lt HO699.out)) (below_size HB.out))
                 have n7_ := Aside0.mk (blk_below BK649.out hb)
                 have n8_ := Aside0.mk (blk_below BK650.out hb)
                 have n9_ := Aside0.mk (blk_below BK663.out hb)
                 have n10_ := Aside0.mk (blk_below BK667.out hb)
                 have n11_ := Aside0.mk (blk_below BK671.out hb)
                 have n12_ := Aside0.mk (blk_below BK676.out hb)
                 have n13_ := Aside0.mk (blk_below BK704.out hb)
                 have n14_ := Aside0.mk (below_step HB.out hb)
                 revert n0_ n1_ n2_ n3_ n4_ n5_ n6_ n7_ n8_ n9_ n10_ n11_ n12_ n13_ n14_
                 clear HO_664000 HO_668000 HO_672000 HO_677000 HO696 HO699 BK649 BK650 BK663 BK667 BK671 BK676 BK704 HB
                 intro HO_664000 HO_668000 HO_672000 HO_677000 HO696 HO699 HO702 BK649 BK650 BK663 BK667 BK671 BK676 BK704 HB
                 (try clear hb)
                 (try clear hb2)
                 (try clear hk)
                 (try clear hi)
                 (try clear ho0)
                 refine hK.out _ _ ⟨(blk_cell BK649.out 0).trans rfl, (blk_cell BK650.out 0).trans rfl⟩ (fun hHeld => ?_)
                 clear hK K
                 refine norm_ (a' := ?_) ?_ ?_
                 rotate_left
                 ·show Act.put _ (some 99) _ = _
                  simp only [Act.put, List.setIfInBounds_toArray, List.set_cons_zero, List.set_cons_succ, i64_w, i32_w]
                  rfl
                 refine pure_ (i := 5) (N := some 94) (v := ?_) (a' := ?_) #[true, true, true, true, true, true, false, false, true, false, false] rfl rfl (any_of HT_.out (by kernel_rfl)) (fun _ _ _ h => h) (Or.inl ⟨by rfl, ?_⟩) ?_ ?_
                 rotate_left
                 ·intro w'
                  go_simp
                  with_reducible rfl
                 rotate_left
                 ·simp only [Act.put, List.setIfInBounds_toArray, List.set_cons_zero, List.set_cons_succ, i64_w, i32_w]
                  rfl
                 refine pure_ (i := 6) (N := some 100) (v := ?_) (a' := ?_) #[true, true, true, true, true, true, true, false, true, false, false] rfl rfl (any_of HT_.out (by kernel_rfl)) (fun _ _ _ h => h) (Or.inl ⟨by rfl, ?_⟩) ?_ ?_
                 rotate_left
                 ·intro w'
                  go_simp
                  with_reducible rfl
                 rotate_left
                 ·simp only [Act.put, List.setIfInBounds_toArray, List.set_cons_zero, List.set_cons_succ, i64_w, i32_w]
                  rfl
                 refine pure_ (i := 7) (N := some 101) (v := ?_) (a' := ?_) #[true, true, true, true, true, true, true, true, true, false, false] rfl rfl (any_of HT_.out (by kernel_rfl)) (fun _ _ _ h => h) (Or.inl ⟨by rfl, ?_⟩) ?_ ?_
                 rotate_left
                 ·intro w'
                  go_simp
                  with_reducible rfl
                 rotate_left
                 ·simp only [Act.put, List.setIfInBounds_toArray, List.set_cons_zero, List.set_cons_succ, i64_w, i32_w]
                  rfl
                 exact norm_ (by simp only [putAll, Act.put, List.setIfInBounds_toArray, List.set_cons_zero, List.set_cons_succ]) (hCont (.slice Ao187 t694.length co187, .slice Ao188 t697.length co188, v701, gb704) _ ⟨hHeld, (Kd.R_mono HO696.out (fun _ hk => ⟨hk.1.2, ⟨hk.2, ⟨hk.1.1.1.1.1.2, ⟨hk.1.1.1.1.2, ⟨hk.1.1.1.2, hk.1.1.2⟩⟩⟩⟩⟩)), (Kd.R_mono HO699.out (fun _ hk => ⟨hk.1.2, ⟨hk.2, ⟨hk.1.1.1.1.1.2, ⟨hk.1.1.1.1.2, ⟨hk.1.1.1.2, hk.1.1.2⟩⟩⟩⟩⟩)), (Kd.R_mono HO702.out (fun _ hk => ⟨hk.1.2, ⟨hk.2, ⟨hk.1.1.1.1.1.2, ⟨hk.1.1.1.1.2, ⟨hk.1.1.1.2, hk.1.1.2⟩⟩⟩⟩⟩)), (Kd.R_mono HO_664000.out (fun _ hk => ⟨hk.1.1.2, ⟨hk.1.2, ⟨hk.2, ⟨hk.1.1.1.1, ⟨hk.1.1.1.2.1, hk.1.1.1.2.2⟩⟩⟩⟩⟩)), (Kd.R_mono HO_668000.out (fun _ hk => ⟨hk.1.1.2, ⟨hk.1.2, ⟨hk.2, ⟨hk.1.1.1.1, ⟨hk.1.1.1.2.1, hk.1.1.1.2.2⟩⟩⟩⟩⟩)), (Kd.R_mono HO_672000.out (fun _ hk => ⟨hk.1.1.2, ⟨hk.1.2, ⟨hk.2, ⟨hk.1.1.1.1, ⟨hk.1.1.1.2.1, hk.1.1.1.2.2⟩⟩⟩⟩⟩)), (Kd.R_mono HO_677000.out (fun _ hk => ⟨hk.1.1.2, ⟨hk.1.2, ⟨hk.2, ⟨hk.1.1.1.1, ⟨hk.1.1.1.2.1, hk.1.1.1.2.2⟩⟩⟩⟩⟩)), BK649.out, BK650.out, BK663.out, BK667.out, BK671.out, BK676.out, BK704.out, GW704.out, GE704.out, NB649_704.out, NB704_649.out, NB650_704.out, NB704_650.out, NB663_704.out, NB704_663.out, NB667_704.out, NB704_667.out, NB671_704.out, NB704_671.out, NB676_704.out, NB704_676.out, HB.out⟩)
               ·skip
                refine box_step ?hg (N := 15) ?hd (cs := #[.slice none 0 0]) (t := 26) ?hr ?_; (case hd => rfl); (case hg => rfl); (case hr => first | (go_simp; done) | (go_simp; rfl))
                intro gb704 hg w185 hbox hb
                have n0_ := Aside0.mk (Kd.R_below HO_664000.out hb)
                have n1_ := Aside0.mk (Kd.R_below HO_668000.out hb)
                have n2_ := Aside0.mk (Kd.R_below HO_672000.out hb)
                have n3_ := Aside0.mk (Kd.R_below HO_677000.out hb)
                have n4_ := Aside0.mk (Kd.R_below HO696.out hb)
                have n5_ := Aside0.mk (blk_below BK649.out hb)
                have n6_ := Aside0.mk (blk_below BK650.out hb)
                have n7_ := Aside0.mk (blk_below BK663.out hb)
                have n8_ := Aside0.mk (blk_below BK667.out hb)
                have n9_ := Aside0.mk (blk_below BK671.out hb)
                have n10_ := Aside0.mk (blk_below BK676.out hb)
                have n11_ := Aside0.mk (below_step HB.out hb)
                have n12_ := Aside0.mk (hbox)
                have n13_ := Aside0.mk ((by rw [hg]; exact (below_size HB.out) : w.heap.size ≤ gb704))
                have n14_ := Aside0.mk ((by rw [hg]; exact (below_size HB.out) : w.heap.size ≤ gb704))
                have n15_ := Aside0.mk ((by rw [hg]; exact Nat.ne_of_lt (blk_lt BK649.out) : gb649 ≠ gb704))
                have n16_ := Aside0.mk ((by rw [hg]; exact Nat.ne_of_gt (blk_lt BK649.out) : gb704 ≠ gb649))
                have n17_ := Aside0.mk ((by rw [hg]; exact Nat.ne_of_lt (blk_lt BK650.out) : gb650 ≠ gb704))
                have n18_ := Aside0.mk ((by rw [hg]; exact Nat.ne_of_gt (blk_lt BK650.out) : gb704 ≠ gb650))
                have n19_ := Aside0.mk ((by rw [hg]; exact Nat.ne_of_lt (blk_lt BK663.out) : gb663 ≠ gb704))
                have n20_ := Aside0.mk ((by rw [hg]; exact Nat.ne_of_gt (blk_lt BK663.out) : gb704 ≠ gb663))
                have n21_ := Aside0.mk ((by rw [hg]; exact Nat.ne_of_lt (blk_lt BK667.out) : gb667 ≠ gb704))
                have n22_ := Aside0.mk ((by rw [hg]; exact Nat.ne_of_gt (blk_lt BK667.out) : gb704 ≠ gb667))
                have n23_ := Aside0.mk ((by rw [hg]; exact Nat.ne_of_lt (blk_lt BK671.out) : gb671 ≠ gb704))
                have n24_ := Aside0.mk ((by rw [hg]; exact Nat.ne_of_gt (blk_lt BK671.out) : gb704 ≠ gb671))
                have n25_ := Aside0.mk ((by rw [hg]; exact Nat.ne_of_lt (blk_lt BK676.out) : gb676 ≠ gb704))
                have n26_ := Aside0.mk ((by rw [hg]; exact Nat.ne_of_gt (blk_lt BK676.out) : gb704 ≠ gb676))
                revert n0_ n1_ n2_ n3_ n4_ n5_ n6_ n7_ n8_ n9_ n10_ n11_ n12_ n13_ n14_ n15_ n16_ n17_ n18_ n19_ n20_ n21_ n22_ n23_ n24_ n25_ n26_
                clear HO_664000 HO_668000 HO_672000 HO_677000 HO696 BK649 BK650 BK663 BK667 BK671 BK676 HB
                intro HO_664000 HO_668000 HO_672000 HO_677000 HO696 BK649 BK650 BK663 BK667 BK671 BK676 HB BK704 GW704 GE704 NB649_704 NB704_649 NB650_704 NB704_650 NB663_704 NB704_663 NB667_704 NB704_667 NB671_704 NB704_671 NB676_704 NB704_676
                clear hb hbox hg
                refine hK.out _ _ ⟨(blk_cell BK649.out 0).trans rfl, (blk_cell BK650.out 0).trans rfl⟩ (fun hHeld => ?_)
                clear hK K
                refine norm_ (a' := ?_) ?_ ?_
                rotate_left
                ·show Act.put _ (some 15) _ = _
                 simp only [Act.put, List.setIfInBounds_toArray, List.set_cons_zero, List.set_cons_succ, i64_w, i32_w]
                 rfl
                refine one_ (i := 3) (N := some 98) #[true, true, true, true, false, false, false, false, true, false, false] rfl rfl (one_of HT_.out (by kernel_rfl)) (by decide) (fun K hK => ?_)
                refine goes_ Tryd.func23 (by kernel_rfl) rfl #[.agg #[.slice A1_0 l1_0.length c1_0]] (by rfl) rfl rfl (by (try simp only [List.map_toArray, List.map_cons, List.map_nil]); first | done | rfl | (simp only [List.length_drop, List.length_take]; rfl)) ?_
                with_reducible refine (laws_toTrie.calls kj106 _ _ l1_0 t697 _ ?side1 ?side2 A171.out).mono ?_
                (case side1 => exact (Kd.C_below HR1_0.out HB.out))
                (case side2 => exact HC1_0.out)
                rintro e w186 ⟨v698, rfl, ho0, hb⟩
                refine ⟨_, rfl, ?_⟩
                have n0_ := Aside0.mk (Kd.R_elder' HO_664000.out (Kd.R_base ho0) hb)
                have n1_ := Aside0.mk (Kd.R_elder' HO_668000.out (Kd.R_base ho0) hb)
                have n2_ := Aside0.mk (Kd.R_elder' HO_672000.out (Kd.R_base ho0) hb)
                have n3_ := Aside0.mk (Kd.R_elder' HO_677000.out (Kd.R_base ho0) hb)
                have n4_ := Aside0.mk (Kd.R_elder' HO696.out (Kd.R_base ho0) hb)
                have n5_ := Aside0.mk (Kd.R_lower (Kd.R_new' (Kd.R_new' (Kd.R_new' (Kd.R_new' (Kd.R_new' ho0 (Kd.R_lt HO_664000.out)) (Kd.R_lt HO_668000.out)) (Kd.R_lt HO_672000.out)) (Kd.R_lt HO_677000.out)) (Kd.R_lt HO696.out)) (below_size HB.out))
                have n6_ := Aside0.mk (blk_below BK649.out hb)
                have n7_ := Aside0.mk (blk_below BK650.out hb)
                have n8_ := Aside0.mk (blk_below BK663.out hb)
                have n9_ := Aside0.mk (blk_below BK667.out hb)
                have n10_ := Aside0.mk (blk_below BK671.out hb)
                have n11_ := Aside0.mk (blk_below BK676.out hb)
                have n12_ := Aside0.mk (blk_below BK704.out hb)
                have n13_ := Aside0.mk (below_step HB.out hb)
                revert n0_ n1_ n2_ n3_ n4_ n5_ n6_ n7_ n8_ n9_ n10_ n11_ n12_ n13_
                clear HO_664000 HO_668000 HO_672000 HO_677000 HO696 BK649 BK650 BK663 BK667 BK671 BK676 BK704 HB
                intro HO_664000 HO_668000 HO_672000 HO_677000 HO696 HO699 BK649 BK650 BK663 BK667 BK671 BK676 BK704 HB
                (try clear hb)
                (try clear hb2)
                (try clear hk)
                (try clear hi)
                (try clear ho0)
                obtain ⟨Ao187, co187, eo187⟩ := Kd.R_slice HO696.out
                (first | subst eo187 | (injection eo187 with f1_ f2_ f3_; have f4_ := f1_.symm; have f5_ := f3_.symm; clear f1_ f2_ f3_; subst f4_; subst f5_))
                obtain ⟨Ao188, co188, eo188⟩ := Kd.R_slice HO699.out
                (first | subst eo188 | (injection eo188 with f1_ f2_ f3_; have f4_ := f1_.symm; have f5_ := f3_.symm; clear f1_ f2_ f3_; subst f4_; subst f5_))
                refine hK.out _ _ ⟨(blk_cell BK649.out 0).trans rfl, (blk_cell BK650.out 0).trans rfl⟩ (fun hHeld => ?_)
                clear hK K
                refine norm_ (a' := ?_) ?_ ?_
                rotate_left
                ·show Act.put _ (some 98) _ = _
                 simp only [Act.put, List.setIfInBounds_toArray, List.set_cons_zero, List.set_cons_succ, i64_w, i32_w]
                 rfl
                refine one_ (i := 4) (N := some 99) #[true, true, true, true, true, false, false, false, true, false, false] rfl rfl (one_of HT_.out (by kernel_rfl)) (by decide) (fun K hK => ?_)
                refine goes_ Tryd.func32 (by kernel_rfl) rfl #[.agg #[.slice Ao187 t694.length co187], .agg #[.slice Ao188 t697.length co188]] (by rfl) rfl rfl (by (try simp only [List.map_toArray, List.map_cons, List.map_nil]); first | done | rfl | (simp only [List.length_drop, List.length_take]; rfl)) ?_
                with_reducible refine (impl_JoinTries.calls kj106 _ _ t694 _ _ t697 t700 t703 _ ?side1 ?side2 ?side3 ?side4 A172.out).mono ?_
                (case side1 => exact (Kd.R_reads' HO696.out).2.2)
                (case side2 => exact (Kd.R_reads' HO696.out).2.1)
                (case side3 => exact (Kd.R_reads' HO699.out).2.2)
                (case side4 => exact (Kd.R_reads' HO699.out).2.1)
                rintro e w189 ⟨v701, rfl, ho0, hb⟩
                refine ⟨_, rfl, ?_⟩
                have n0_ := Aside0.mk (Kd.R_elder' HO_664000.out (Kd.R_base ho0) hb)
                have n1_ := Aside0.mk (Kd.R_elder' HO_668000.out (Kd.R_base ho0) hb)
                have n2_ := Aside0.mk (Kd.R_elder' HO_672000.out (Kd.R_base ho0) hb)
                have n3_ := Aside0.mk (Kd.R_elder' HO_677000.out (Kd.R_base ho0) hb)
                have n4_ := Aside0.mk (Kd.R_elder' HO696.out (Kd.R_base ho0) hb)
                have n5_ := Aside0.mk (Kd.R_elder' HO699.out (Kd.R_base ho0) hb)
                have n6_ := Aside0.mk (Kd.R_lower (Kd.R_new' (Kd.R_new' (Kd.R_new' (Kd.R_new' (Kd.R_new' (Kd.R_new' ho0 (Kd.R_lt HO_664000.out)) (Kd.R_lt HO_668000.out)) (Kd.R_lt HO_672000.out)) (Kd.R_lt HO_677000.out)) (Kd.R_lt HO696.out)) (Kd.R_lt HO699.out)) (below_size HB.out))
                have n7_ := Aside0.mk (blk_below BK649.out hb)
                have n8_ := Aside0.mk (blk_below BK650.out hb)
                have n9_ := Aside0.mk (blk_below BK663.out hb)
                have n10_ := Aside0.mk (blk_below BK667.out hb)
                have n11_ := Aside0.mk (blk_below BK671.out hb)
                have n12_ := Aside0.mk (blk_below BK676.out hb)
                have n13_ := Aside0.mk (blk_below BK704.out hb)
                have n14_ := Aside0.mk (below_step HB.out hb)
                revert n0_ n1_ n2_ n3_ n4_ n5_ n6_ n7_ n8_ n9_ n10_ n11_ n12_ n13_ n14_
                clear HO_664000 HO_668000 HO_672000 HO_677000 HO696 HO699 BK649 BK650 BK663 BK667 BK671 BK676 BK704 HB
                intro HO_664000 HO_668000 HO_672000 HO_677000 HO696 HO699 HO702 BK649 BK650 BK663 BK667 BK671 BK676 BK704 HB
                (try clear hb)
                (try clear hb2)
                (try clear hk)
                (try clear hi)
                (try clear ho0)
                refine hK.out _ _ ⟨(blk_cell BK649.out 0).trans rfl, (blk_cell BK650.out 0).trans rfl⟩ (fun hHeld => ?_)
                clear hK K
                refine norm_ (a' := ?_) ?_ ?_
                rotate_left
                ·show Act.put _ (some 99) _ = _
                 simp only [Act.put, List.setIfInBounds_toArray, List.set_cons_zero, List.set_cons_succ, i64_w, i32_w]
                 rfl
                refine pure_ (i := 5) (N := some 94) (v := ?_) (a' := ?_) #[true, true, true, true, true, true, false, false, true, false, false] rfl rfl (any_of HT_.out (by kernel_rfl)) (fun _ _ _ h => h) (Or.inl ⟨by rfl, ?_⟩) ?_ ?_
                rotate_left
                ·intro w'
                 go_simp
                 with_reducible rfl
                rotate_left
                ·simp only [Act.put, List.setIfInBounds_toArray, List.set_cons_zero, List.set_cons_succ, i64_w, i32_w]
                 rfl
                refine pure_ (i := 6) (N := some 100) (v := ?_) (a' := ?_) #[true, true, true, true, true, true, true, false, true, false, false] rfl rfl (any_of HT_.out (by kernel_rfl)) (fun _ _ _ h => h) (Or.inl ⟨by rfl, ?_⟩) ?_ ?_
                rotate_left
                ·intro w'
                 go_simp
                 with_reducible rfl
                rotate_left
                ·simp only [Act.put, List.setIfInBounds_toArray, List.set_cons_zero, List.set_cons_succ, i64_w, i32_w]
                 rfl
                refine pure_ (i := 7) (N := some 101) (v := ?_) (a' := ?_) #[true, true, true, true, true, true, true, true, true, false, false] rfl rfl (any_of HT_.out (by kernel_rfl)) (fun _ _ _ h => h) (Or.inl ⟨by rfl, ?_⟩) ?_ ?_
                rotate_left
                ·intro w'
                 go_simp
                 with_reducible rfl
                rotate_left
                ·simp only [Act.put, List.setIfInBounds_toArray, List.set_cons_zero, List.set_cons_succ, i64_w, i32_w]
                 rfl
                exact norm_ (by simp only [putAll, Act.put, List.setIfInBounds_toArray, List.set_cons_zero, List.set_cons_succ]) (hCont (.slice Ao187 t694.length co187, .slice Ao188 t697.length co188, v701, gb704) _ ⟨hHeld, (Kd.R_mono HO696.out (fun _ hk => ⟨hk.1.2, ⟨hk.2, ⟨hk.1.1.1.1.1.2, ⟨hk.1.1.1.1.2, ⟨hk.1.1.1.2, hk.1.1.2⟩⟩⟩⟩⟩)), (Kd.R_mono HO699.out (fun _ hk => ⟨hk.1.2, ⟨hk.2, ⟨hk.1.1.1.1.1.2, ⟨hk.1.1.1.1.2, ⟨hk.1.1.1.2, hk.1.1.2⟩⟩⟩⟩⟩)), (Kd.R_mono HO702.out (fun _ hk => ⟨hk.1.2, ⟨hk.2, ⟨hk.1.1.1.1.1.2, ⟨hk.1.1.1.1.2, ⟨hk.1.1.1.2, hk.1.1.2⟩⟩⟩⟩⟩)), (Kd.R_mono HO_664000.out (fun _ hk => ⟨hk.1.1.2, ⟨hk.1.2, ⟨hk.2, ⟨hk.1.1.1.1, ⟨hk.1.1.1.2.1, hk.1.1.1.2.2⟩⟩⟩⟩⟩)), (Kd.R_mono HO_668000.out (fun _ hk => ⟨hk.1.1.2, ⟨hk.1.2, ⟨hk.2, ⟨hk.1.1.1.1, ⟨hk.1.1.1.2.1, hk.1.1.1.2.2⟩⟩⟩⟩⟩)), (Kd.R_mono HO_672000.out (fun _ hk => ⟨hk.1.1.2, ⟨hk.1.2, ⟨hk.2, ⟨hk.1.1.1.1, ⟨hk.1.1.1.2.1, hk.1.1.1.2.2⟩⟩⟩⟩⟩)), (Kd.R_mono HO_677000.out (fun _ hk => ⟨hk.1.1.2, ⟨hk.1.2, ⟨hk.2, ⟨hk.1.1.1.1, ⟨hk.1.1.1.2.1, hk.1.1.1.2.2⟩⟩⟩⟩⟩)), BK649.out, BK650.out, BK663.out, BK667.out, BK671.out, BK676.out, BK704.out, GW704.out, GE704.out, NB649_704.out, NB704_649.out, NB650_704.out, NB704_650.out, NB663_704.out, NB704_663.out, NB667_704.out, NB704_667.out, NB671_704.out, NB704_671.out, NB676_704.out, NB704_676.out, HB.out⟩)
              ·skip
               refine box_step ?hg (N := 15) ?hd (cs := #[.slice none 0 0]) (t := 26) ?hr ?_; (case hd => rfl); (case hg => rfl); (case hr => first | (go_simp; done) | (go_simp; rfl))
               intro gb704 hg w184 hbox hb
               have n0_ := Aside0.mk (Kd.R_below HO_664000.out hb)
               have n1_ := Aside0.mk (Kd.R_below HO_668000.out hb)
               have n2_ := Aside0.mk (Kd.R_below HO_672000.out hb)
               have n3_ := Aside0.mk (Kd.R_below HO_677000.out hb)
               have n4_ := Aside0.mk (blk_below BK649.out hb)
               have n5_ := Aside0.mk (blk_below BK650.out hb)
               have n6_ := Aside0.mk (blk_below BK663.out hb)
               have n7_ := Aside0.mk (blk_below BK667.out hb)
               have n8_ := Aside0.mk (blk_below BK671.out hb)
               have n9_ := Aside0.mk (blk_below BK676.out hb)
               have n10_ := Aside0.mk (below_step HB.out hb)
               have n11_ := Aside0.mk (hbox)
               have n12_ := Aside0.mk ((by rw [hg]; exact (below_size HB.out) : w.heap.size ≤ gb704))
               have n13_ := Aside0.mk ((by rw [hg]; exact (below_size HB.out) : w.heap.size ≤ gb704))
               have n14_ := Aside0.mk ((by rw [hg]; exact Nat.ne_of_lt (blk_lt BK649.out) : gb649 ≠ gb704))
               have n15_ := Aside0.mk ((by rw [hg]; exact Nat.ne_of_gt (blk_lt BK649.out) : gb704 ≠ gb649))
               have n16_ := Aside0.mk ((by rw [hg]; exact Nat.ne_of_lt (blk_lt BK650.out) : gb650 ≠ gb704))
               have n17_ := Aside0.mk ((by rw [hg]; exact Nat.ne_of_gt (blk_lt BK650.out) : gb704 ≠ gb650))
               have n18_ := Aside0.mk ((by rw [hg]; exact Nat.ne_of_lt (blk_lt BK663.out) : gb663 ≠ gb704))
               have n19_ := Aside0.mk ((by rw [hg]; exact Nat.ne_of_gt (blk_lt BK663.out) : gb704 ≠ gb663))
               have n20_ := Aside0.mk ((by rw [hg]; exact Nat.ne_of_lt (blk_lt BK667.out) : gb667 ≠ gb704))
               have n21_ := Aside0.mk ((by rw [hg]; exact Nat.ne_of_gt (blk_lt BK667.out) : gb704 ≠ gb667))
               have n22_ := Aside0.mk ((by rw [hg]; exact Nat.ne_of_lt (blk_lt BK671.out) : gb671 ≠ gb704))
               have n23_ := Aside0.mk ((by rw [hg]; exact Nat.ne_of_gt (blk_lt BK671.out) : gb704 ≠ gb671))
               have n24_ := Aside0.mk ((by rw [hg]; exact Nat.ne_of_lt (blk_lt BK676.out) : gb676 ≠ gb704))
               have n25_ := Aside0.mk ((by rw [hg]; exact Nat.ne_of_gt (blk_lt BK676.out) : gb704 ≠ gb676))
               revert n0_ n1_ n2_ n3_ n4_ n5_ n6_ n7_ n8_ n9_ n10_ n11_ n12_ n13_ n14_ n15_ n16_ n17_ n18_ n19_ n20_ n21_ n22_ n23_ n24_ n25_
               clear HO_664000 HO_668000 HO_672000 HO_677000 BK649 BK650 BK663 BK667 BK671 BK676 HB
               intro HO_664000 HO_668000 HO_672000 HO_677000 BK649 BK650 BK663 BK667 BK671 BK676 HB BK704 GW704 GE704 NB649_704 NB704_649 NB650_704 NB704_650 NB663_704 NB704_663 NB667_704 NB704_667 NB671_704 NB704_671 NB676_704 NB704_676
               clear hb hbox hg
               refine hK.out _ _ ⟨(blk_cell BK649.out 0).trans rfl, (blk_cell BK650.out 0).trans rfl⟩ (fun hHeld => ?_)
               clear hK K
               refine norm_ (a' := ?_) ?_ ?_
               rotate_left
               ·show Act.put _ (some 15) _ = _
                simp only [Act.put, List.setIfInBounds_toArray, List.set_cons_zero, List.set_cons_succ, i64_w, i32_w]
                rfl
               refine one_ (i := 1) (N := some 96) #[true, true, true, false, false, false, false, false, true, false, false] rfl rfl (one_of HT_.out (by kernel_rfl)) (by decide) (fun K hK => ?_)
               refine goes_ Tryd.func23 (by kernel_rfl) rfl #[.agg #[.slice A0_0 l0_0.length c0_0]] (by rfl) rfl rfl (by (try simp only [List.map_toArray, List.map_cons, List.map_nil]); first | done | rfl | (simp only [List.length_drop, List.length_take]; rfl)) ?_
               with_reducible refine (laws_toTrie.calls kj106 _ _ l0_0 t694 _ ?side1 ?side2 A170.out).mono ?_
               (case side1 => exact (Kd.C_below HR0_0.out HB.out))
               (case side2 => exact HC0_0.out)
               rintro e w185 ⟨v695, rfl, ho0, hb⟩
               refine ⟨_, rfl, ?_⟩
               have n0_ := Aside0.mk (Kd.R_elder' HO_664000.out (Kd.R_base ho0) hb)
               have n1_ := Aside0.mk (Kd.R_elder' HO_668000.out (Kd.R_base ho0) hb)
               have n2_ := Aside0.mk (Kd.R_elder' HO_672000.out (Kd.R_base ho0) hb)
               have n3_ := Aside0.mk (Kd.R_elder' HO_677000.out (Kd.R_base ho0) hb)
               have n4_ := Aside0.mk (Kd.R_lower (Kd.R_new' (Kd.R_new' (Kd.R_new' (Kd.R_new' ho0 (Kd.R_lt HO_664000.out)) (Kd.R_lt HO_668000.out)) (Kd.R_lt HO_672000.out)) (Kd.R_lt HO_677000.out)) (below_size HB.out))
               have n5_ := Aside0.mk (blk_below BK649.out hb)
               have n6_ := Aside0.mk (blk_below BK650.out hb)
               have n7_ := Aside0.mk (blk_below BK663.out hb)
               have n8_ := Aside0.mk (blk_below BK667.out hb)
               have n9_ := Aside0.mk (blk_below BK671.out hb)
               have n10_ := Aside0.mk (blk_below BK676.out hb)
               have n11_ := Aside0.mk (blk_below BK704.out hb)
               have n12_ := Aside0.mk (below_step HB.out hb)
               revert n0_ n1_ n2_ n3_ n4_ n5_ n6_ n7_ n8_ n9_ n10_ n11_ n12_
               clear HO_664000 HO_668000 HO_672000 HO_677000 BK649 BK650 BK663 BK667 BK671 BK676 BK704 HB
               intro HO_664000 HO_668000 HO_672000 HO_677000 HO696 BK649 BK650 BK663 BK667 BK671 BK676 BK704 HB
               (try clear hb)
               (try clear hb2)
               (try clear hk)
               (try clear hi)
               (try clear ho0)
               refine hK.out _ _ ⟨(blk_cell BK649.out 0).trans rfl, (blk_cell BK650.out 0).trans rfl⟩ (fun hHeld => ?_)
               clear hK K
               refine norm_ (a' := ?_) ?_ ?_
               rotate_left
               ·show Act.put _ (some 96) _ = _
                simp only [Act.put, List.setIfInBounds_toArray, List.set_cons_zero, List.set_cons_succ, i64_w, i32_w]
                rfl
               refine one_ (i := 3) (N := some 98) #[true, true, true, true, false, false, false, false, true, false, false] rfl rfl (one_of HT_.out (by kernel_rfl)) (by decide) (fun K hK => ?_)
               refine goes_ Tryd.func23 (by kernel_rfl) rfl #[.agg #[.slice A1_0 l1_0.length c1_0]] (by rfl) rfl rfl (by (try simp only [List.map_toArray, List.map_cons, List.map_nil]); first | done | rfl | (simp only [List.length_drop, List.length_take]; rfl)) ?_
               with_reducible refine (laws_toTrie.calls kj106 _ _ l1_0 t697 _ ?side1 ?side2 A171.out).mono ?_
               (case side1 => exact (Kd.C_below HR1_0.out HB.out))
               (case side2 => exact HC1_0.out)
               rintro e w186 ⟨v698, rfl, ho0, hb⟩
               refine ⟨_, rfl, ?_⟩
               have n0_ := Aside0.mk (Kd.R_elder' HO_664000.out (Kd.R_base ho0) hb)
               have n1_ := Aside0.mk (Kd.R_elder' HO_668000.out (Kd.R_base ho0) hb)
               have n2_ := Aside0.mk (Kd.R_elder' HO_672000.out (Kd.R_base ho0) hb)
               have n3_ := Aside0.mk (Kd.R_elder' HO_677000.out (Kd.R_base ho0) hb)
               have n4_ := Aside0.mk (Kd.R_elder' HO696.out (Kd.R_base ho0) hb)
               have n5_ := Aside0.mk (Kd.R_lower (Kd.R_new' (Kd.R_new' (Kd.R_new' (Kd.R_new' (Kd.R_new' ho0 (Kd.R_lt HO_664000.out)) (Kd.R_lt HO_668000.out)) (Kd.R_lt HO_672000.out)) (Kd.R_lt HO_677000.out)) (Kd.R_lt HO696.out)) (below_size HB.out))
               have n6_ := Aside0.mk (blk_below BK649.out hb)
               have n7_ := Aside0.mk (blk_below BK650.out hb)
               have n8_ := Aside0.mk (blk_below BK663.out hb)
               have n9_ := Aside0.mk (blk_below BK667.out hb)
               have n10_ := Aside0.mk (blk_below BK671.out hb)
               have n11_ := Aside0.mk (blk_below BK676.out hb)
               have n12_ := Aside0.mk (blk_below BK704.out hb)
               have n13_ := Aside0.mk (below_step HB.out hb)
               revert n0_ n1_ n2_ n3_ n4_ n5_ n6_ n7_ n8_ n9_ n10_ n11_ n12_ n13_
               clear HO_664000 HO_668000 HO_672000 HO_677000 HO696 BK649 BK650 BK663 BK667 BK671 BK676 BK704 HB
               intro HO_664000 HO_668000 HO_672000 HO_677000 HO696 HO699 BK649 BK650 BK663 BK667 BK671 BK676 BK704 HB
               (try clear hb)
               (try clear hb2)
               (try clear hk)
               (try clear hi)
               (try clear ho0)
               obtain ⟨Ao187, co187, eo187⟩ := Kd.R_slice HO696.out
               (first | subst eo187 | (injection eo187 with f1_ f2_ f3_; have f4_ := f1_.symm; have f5_ := f3_.symm; clear f1_ f2_ f3_; subst f4_; subst f5_))
               obtain ⟨Ao188, co188, eo188⟩ := Kd.R_slice HO699.out
               (first | subst eo188 | (injection eo188 with f1_ f2_ f3_; have f4_ := f1_.symm; have f5_ := f3_.symm; clear f1_ f2_ f3_; subst f4_; subst f5_))
               refine hK.out _ _ ⟨(blk_cell BK649.out 0).trans rfl, (blk_cell BK650.out 0).trans rfl⟩ (fun hHeld => ?_)
               clear hK K
               refine norm_ (a' := ?_) ?_ ?_
               rotate_left
               ·show Act.put _ (some 98) _ = _
                simp only [Act.put, List.setIfInBounds_toArray, List.set_cons_zero, List.set_cons_succ, i64_w, i32_w]
                rfl
               refine one_ (i := 4) (N := some 99) #[true, true, true, true, true, false, false, false, true, false, false] rfl rfl (one_of HT_.out (by kernel_rfl)) (by decide) (fun K hK => ?_)
               refine goes_ Tryd.func32 (by kernel_rfl) rfl #[.agg #[.slice Ao187 t694.length co187], .agg #[.slice Ao188 t697.length co188]] (by rfl) rfl rfl (by (try simp only [List.map_toArray, List.map_cons, List.map_nil]); first | done | rfl | (simp only [List.length_drop, List.length_take]; rfl)) ?_
               with_reducible refine (impl_JoinTries.calls kj106 _ _ t694 _ _ t697 t700 t703 _ ?side1 ?side2 ?side3 ?side4 A172.out).mono ?_
               (case side1 => exact (Kd.R_reads' HO696.out).2.2)
               (case side2 => exact (Kd.R_reads' HO696.out).2.1)
               (case side3 => exact (Kd.R_reads' HO699.out).2.2)
               (case side4 => exact (Kd.R_reads' HO699.out).2.1)
               rintro e w189 ⟨v701, rfl, ho0, hb⟩
               refine ⟨_, rfl, ?_⟩
               have n0_ := Aside0.mk (Kd.R_elder' HO_664000.out (Kd.R_base ho0) hb)
               have n1_ := Aside0.mk (Kd.R_elder' HO_668000.out (Kd.R_base ho0) hb)
               have n2_ := Aside0.mk (Kd.R_elder' HO_672000.out (Kd.R_base ho0) hb)
               have n3_ := Aside0.mk (Kd.R_elder' HO_677000.out (Kd.R_base ho0) hb)
               have n4_ := Aside0.mk (Kd.R_elder' HO696.out (Kd.R_base ho0) hb)
               have n5_ := Aside0.mk (Kd.R_elder' HO699.out (Kd.R_base ho0) hb)
               have n6_ := Aside0.mk (Kd.R_lower (Kd.R_new' (Kd.R_new' (Kd.R_new' (Kd.R_new' (Kd.R_new' (Kd.R_new' ho0 (Kd.R_lt HO_664000.out)) (Kd.R_lt HO_668000.out)) (Kd.R_lt HO_672000.out)) (Kd.R_lt HO_677000.out)) (Kd.R_lt HO696.out)) (Kd.R_lt HO699.out)) (below_size HB.out))
               have n7_ := Aside0.mk (blk_below BK649.out hb)
               have n8_ := Aside0.mk (blk_below BK650.out hb)
               have n9_ := Aside0.mk (blk_below BK663.out hb)
               have n10_ := Aside0.mk (blk_below BK667.out hb)
               have n11_ := Aside0.mk (blk_below BK671.out hb)
               have n12_ := Aside0.mk (blk_below BK676.out hb)
               have n13_ := Aside0.mk (blk_below BK704.out hb)
               have n14_ := Aside0.mk (below_step HB.out hb)
               revert n0_ n1_ n2_ n3_ n4_ n5_ n6_ n7_ n8_ n9_ n10_ n11_ n12_ n13_ n14_
               clear HO_664000 HO_668000 HO_672000 HO_677000 HO696 HO699 BK649 BK650 BK663 BK667 BK671 BK676 BK704 HB
               intro HO_664000 HO_668000 HO_672000 HO_677000 HO696 HO699 HO702 BK649 BK650 BK663 BK667 BK671 BK676 BK704 HB
               (try clear hb)
               (try clear hb2)
               (try clear hk)
               (try clear hi)
               (try clear ho0)
               refine hK.out _ _ ⟨(blk_cell BK649.out 0).trans rfl, (blk_cell BK650.out 0).trans rfl⟩ (fun hHeld => ?_)
               clear hK K
               refine norm_ (a' := ?_) ?_ ?_
               rotate_left
               ·show Act.put _ (some 99) _ = _
                simp only [Act.put, List.setIfInBounds_toArray, List.set_cons_zero, List.set_cons_succ, i64_w, i32_w]
                rfl
               refine pure_ (i := 5) (N := some 94) (v := ?_) (a' := ?_) #[true, true, true, true, true, true, false, false, true, false, false] rfl rfl (any_of HT_.out (by kernel_rfl)) (fun _ _ _ h => h) (Or.inl ⟨by rfl, ?_⟩) ?_ ?_
               rotate_left
               ·intro w'
                go_simp
                with_reducible rfl
               rotate_left
               ·simp only [Act.put, List.setIfInBounds_toArray, List.set_cons_zero, List.set_cons_succ, i64_w, i32_w]
                rfl
               refine pure_ (i := 6) (N := some 100) (v := ?_) (a' := ?_) #[true, true, true, true, true, true, true, false, true, false, false] rfl rfl (any_of HT_.out (by kernel_rfl)) (fun _ _ _ h => h) (Or.inl ⟨by rfl, ?_⟩) ?_ ?_
               rotate_left
               ·intro w'
                go_simp
                with_reducible rfl
               rotate_left
               ·simp only [Act.put, List.setIfInBounds_toArray, List.set_cons_zero, List.set_cons_succ, i64_w, i32_w]
                rfl
               refine pure_ (i := 7) (N := some 101) (v := ?_) (a' := ?_) #[true, true, true, true, true, true, true, true, true, false, false] rfl rfl (any_of HT_.out (by kernel_rfl)) (fun _ _ _ h => h) (Or.inl ⟨by rfl, ?_⟩) ?_ ?_
               rotate_left
               ·intro w'
                go_simp
                with_reducible rfl
               rotate_left
               ·simp only [Act.put, List.setIfInBounds_toArray, List.set_cons_zero, List.set_cons_succ, i64_w, i32_w]
                rfl
               exact norm_ (by simp only [putAll, Act.put, List.setIfInBounds_toArray, List.set_cons_zero, List.set_cons_succ]) (hCont (.slice Ao187 t694.length co187, .slice Ao188 t697.length co188, v701, gb704) _ ⟨hHeld, (Kd.R_mono HO696.out (fun _ hk => ⟨hk.1.2, ⟨hk.2, ⟨hk.1.1.1.1.1.2, ⟨hk.1.1.1.1.2, ⟨hk.1.1.1.2, hk.1.1.2⟩⟩⟩⟩⟩)), (Kd.R_mono HO699.out (fun _ hk => ⟨hk.1.2, ⟨hk.2, ⟨hk.1.1.1.1.1.2, ⟨hk.1.1.1.1.2, ⟨hk.1.1.1.2, hk.1.1.2⟩⟩⟩⟩⟩)), (Kd.R_mono HO702.out (fun _ hk => ⟨hk.1.2, ⟨hk.2, ⟨hk.1.1.1.1.1.2, ⟨hk.1.1.1.1.2, ⟨hk.1.1.1.2, hk.1.1.2⟩⟩⟩⟩⟩)), (Kd.R_mono HO_664000.out (fun _ hk => ⟨hk.1.1.2, ⟨hk.1.2, ⟨hk.2, ⟨hk.1.1.1.1, ⟨hk.1.1.1.2.1, hk.1.1.1.2.2⟩⟩⟩⟩⟩)), (Kd.R_mono HO_668000.out (fun _ hk => ⟨hk.1.1.2, ⟨hk.1.2, ⟨hk.2, ⟨hk.1.1.1.1, ⟨hk.1.1.1.2.1, hk.1.1.1.2.2⟩⟩⟩⟩⟩)), (Kd.R_mono HO_672000.out (fun _ hk => ⟨hk.1.1.2, ⟨hk.1.2, ⟨hk.2, ⟨hk.1.1.1.1, ⟨hk.1.1.1.2.1, hk.1.1.1.2.2⟩⟩⟩⟩⟩)), (Kd.R_mono HO_677000.out (fun _ hk => ⟨hk.1.1.2, ⟨hk.1.2, ⟨hk.2, ⟨hk.1.1.1.1, ⟨hk.1.1.1.2.1, hk.1.1.1.2.2⟩⟩⟩⟩⟩)), BK649.out, BK650.out, BK663.out, BK667.out, BK671.out, BK676.out, BK704.out, GW704.out, GE704.out, NB649_704.out, NB704_649.out, NB650_704.out, NB704_650.out, NB663_704.out, NB704_663.out, NB667_704.out, NB704_667.out, NB671_704.out, NB704_671.out, NB676_704.out, NB704_676.out, HB.out⟩)
             rintro ⟨v695, v698, v701, gb704⟩ w190 ⟨hS_, h0_, h1_, h2_, h3_, h4_, h5_, h6_, h7_, h8_, h9_, h10_, h11_, h12_, h13_, h14_, h15_, h16_, h17_, h18_, h19_, h20_, h21_, h22_, h23_, h24_, h25_, h26_, h27_, h28_⟩
             have n0_ : Aside0 (Kd.R k76 76 w190 w.heap.size (fun k_ => some k_ ≠ (v698 : Value).ownBlock ∧ some k_ ≠ (v701 : Value).ownBlock ∧ some k_ ≠ (.slice Ao41 t659.length co41 : Value).ownBlock ∧ some k_ ≠ (.slice Ao47 t687.length co47 : Value).ownBlock ∧ some k_ ≠ (.slice Ao56 t689.length co56 : Value).ownBlock ∧ some k_ ≠ (.slice Ao65 t672.length co65 : Value).ownBlock) v695 t694) := ⟨h0_⟩
             have n1_ : Aside0 (Kd.R k76 76 w190 w.heap.size (fun k_ => some k_ ≠ (v695 : Value).ownBlock ∧ some k_ ≠ (v701 : Value).ownBlock ∧ some k_ ≠ (.slice Ao41 t659.length co41 : Value).ownBlock ∧ some k_ ≠ (.slice Ao47 t687.length co47 : Value).ownBlock ∧ some k_ ≠ (.slice Ao56 t689.length co56 : Value).ownBlock ∧ some k_ ≠ (.slice Ao65 t672.length co65 : Value).ownBlock) v698 t697) := ⟨h1_⟩
             have n2_ : Aside0 (Kd.R k76 76 w190 w.heap.size (fun k_ => some k_ ≠ (v695 : Value).ownBlock ∧ some k_ ≠ (v698 : Value).ownBlock ∧ some k_ ≠ (.slice Ao41 t659.length co41 : Value).ownBlock ∧ some k_ ≠ (.slice Ao47 t687.length co47 : Value).ownBlock ∧ some k_ ≠ (.slice Ao56 t689.length co56 : Value).ownBlock ∧ some k_ ≠ (.slice Ao65 t672.length co65 : Value).ownBlock) v701 t700) := ⟨h2_⟩
             have n3_ : Aside0 (Kd.R k76 76 w190 w.heap.size (fun k_ => some k_ ≠ (v695 : Value).ownBlock ∧ some k_ ≠ (v698 : Value).ownBlock ∧ some k_ ≠ (v701 : Value).ownBlock ∧ some k_ ≠ (.slice Ao47 t687.length co47 : Value).ownBlock ∧ some k_ ≠ (.slice Ao56 t689.length co56 : Value).ownBlock ∧ some k_ ≠ (.slice Ao65 t672.length co65 : Value).ownBlock) (.slice Ao41 t659.length co41) t659) := ⟨h3_⟩
             have n4_ : Aside0 (Kd.R k76 76 w190 w.heap.size (fun k_ => some k_ ≠ (v695 : Value).ownBlock ∧ some k_ ≠ (v698 : Value).ownBlock ∧ some k_ ≠ (v701 : Value).ownBlock ∧ some k_ ≠ (.slice Ao41 t659.length co41 : Value).ownBlock ∧ some k_ ≠ (.slice Ao56 t689.length co56 : Value).ownBlock ∧ some k_ ≠ (.slice Ao65 t672.length co65 : Value).ownBlock) (.slice Ao47 t687.length co47) t687) := ⟨h4_⟩
             have n5_ : Aside0 (Kd.R k76 76 w190 w.heap.size (fun k_ => some k_ ≠ (v695 : Value).ownBlock ∧ some k_ ≠ (v698 : Value).ownBlock ∧ some k_ ≠ (v701 : Value).ownBlock ∧ some k_ ≠ (.slice Ao41 t659.length co41 : Value).ownBlock ∧ some k_ ≠ (.slice Ao47 t687.length co47 : Value).ownBlock ∧ some k_ ≠ (.slice Ao65 t672.length co65 : Value).ownBlock) (.slice Ao56 t689.length co56) t689) := ⟨h5_⟩
             have n6_ : Aside0 (Kd.R k76 76 w190 w.heap.size (fun k_ => some k_ ≠ (v695 : Value).ownBlock ∧ some k_ ≠ (v698 : Value).ownBlock ∧ some k_ ≠ (v701 : Value).ownBlock ∧ some k_ ≠ (.slice Ao41 t659.length co41 : Value).ownBlock ∧ some k_ ≠ (.slice Ao47 t687.length co47 : Value).ownBlock ∧ some k_ ≠ (.slice Ao56 t689.length co56 : Value).ownBlock) (.slice Ao65 t672.length co65) t692) := ⟨h6_⟩
             have n7_ : Aside0 (w190.heap[gb649]? = some (.cells #[.slice A0_0 l0_0.length c0_0] 36 (0, 0))) := ⟨h7_⟩
             have n8_ : Aside0 (w190.heap[gb650]? = some (.cells #[.slice A1_0 l1_0.length c1_0] 36 (0, 0))) := ⟨h8_⟩
             have n9_ : Aside0 (w190.heap[gb663]? = some (.cells #[.slice Ao41 t659.length co41] 26 (0, 0))) := ⟨h9_⟩
             have n10_ : Aside0 (w190.heap[gb667]? = some (.cells #[.slice Ao47 t687.length co47] 26 (0, 0))) := ⟨h10_⟩
             have n11_ : Aside0 (w190.heap[gb671]? = some (.cells #[.slice Ao56 t689.length co56] 26 (0, 0))) := ⟨h11_⟩
             have n12_ : Aside0 (w190.heap[gb676]? = some (.cells #[.slice Ao65 t672.length co65] 26 (0, 0))) := ⟨h12_⟩
             have n13_ : Aside0 (w190.heap[gb704]? = some (.cells #[.slice none 0 0] 26 (0, 0))) := ⟨h13_⟩
             have n14_ : Aside0 (w.heap.size ≤ gb704) := ⟨h14_⟩
             have n15_ : Aside0 (w.heap.size ≤ gb704) := ⟨h15_⟩
             have n16_ : Aside0 (gb649 ≠ gb704) := ⟨h16_⟩
             have n17_ : Aside0 (gb704 ≠ gb649) := ⟨h17_⟩
             have n18_ : Aside0 (gb650 ≠ gb704) := ⟨h18_⟩
             have n19_ : Aside0 (gb704 ≠ gb650) := ⟨h19_⟩
             have n20_ : Aside0 (gb663 ≠ gb704) := ⟨h20_⟩
             have n21_ : Aside0 (gb704 ≠ gb663) := ⟨h21_⟩
             have n22_ : Aside0 (gb667 ≠ gb704) := ⟨h22_⟩
             have n23_ : Aside0 (gb704 ≠ gb667) := ⟨h23_⟩
             have n24_ : Aside0 (gb671 ≠ gb704) := ⟨h24_⟩
             have n25_ : Aside0 (gb704 ≠ gb671) := ⟨h25_⟩
             have n26_ : Aside0 (gb676 ≠ gb704) := ⟨h26_⟩
             have n27_ : Aside0 (gb704 ≠ gb676) := ⟨h27_⟩
             have n28_ : Aside0 (Below w.heap.size w w190) := ⟨h28_⟩
             clear HO_664000
             clear HO_668000
             clear HO_672000
             clear HO_677000
             clear BK649
             clear BK650
             clear BK663
             clear BK667
             clear BK671
             clear BK676
             clear HB
             clear h0_ h1_ h2_ h3_ h4_ h5_ h6_ h7_ h8_ h9_ h10_ h11_ h12_ h13_ h14_ h15_ h16_ h17_ h18_ h19_ h20_ h21_ h22_ h23_ h24_ h25_ h26_ h27_ h28_
             have HO696 := n0_
             have HO699 := n1_
             have HO702 := n2_
             have HO_664000 := n3_
             have HO_668000 := n4_
             have HO_672000 := n5_
             have HO_677000 := n6_
             have BK649 := n7_
             have BK650 := n8_
             have BK663 := n9_
             have BK667 := n10_
             have BK671 := n11_
             have BK676 := n12_
             have BK704 := n13_
             have GW704 := n14_
             have GE704 := n15_
             have NB649_704 := n16_
             have NB704_649 := n17_
             have NB650_704 := n18_
             have NB704_650 := n19_
             have NB663_704 := n20_
             have NB704_663 := n21_
             have NB667_704 := n22_
             have NB704_667 := n23_
             have NB671_704 := n24_
             have NB704_671 := n25_
             have NB676_704 := n26_
             have NB704_676 := n27_
             have HB := n28_
             clear n0_ n1_ n2_ n3_ n4_ n5_ n6_ n7_ n8_ n9_ n10_ n11_ n12_ n13_ n14_ n15_ n16_ n17_ n18_ n19_ n20_ n21_ n22_ n23_ n24_ n25_ n26_ n27_ n28_
             have hHeld : w190.cell? ⟨gb649, 0, none⟩ = some (.slice A0_0 l0_0.length c0_0) ∧ w190.cell? ⟨gb650, 0, none⟩ = some (.slice A1_0 l1_0.length c1_0) := hS_
             obtain ⟨Ao191, co191, eo191⟩ := Kd.R_slice HO702.out
             (first | subst eo191 | (injection eo191 with f1_ f2_ f3_; have f4_ := f1_.symm; have f5_ := f3_.symm; clear f1_ f2_ f3_; subst f4_; subst f5_))
             refine norm_ (a' := ?_) ?_ ?_
             rotate_left
             ·simp only [putAll, Act.put, List.setIfInBounds_toArray, List.set_cons_zero, List.set_cons_succ]
              rfl
             refine one_ (i := 9) (N := none) #[true, true, true, true, true, true, true, true, true, true, false] rfl rfl (one_of HT_.out (by kernel_rfl)) (by decide) (fun K hK => ?_)
             have hs192 : w190.cell? ⟨gb704, 0, none⟩ = some (.slice none 0 0) := (blk_cell BK704.out 0).trans rfl
             have hfs192 := blk_frozen BK704.out 0
             have hns192_0 := NB649_704.out
             have hns192_1 := NB650_704.out
             have hns192_2 := NB663_704.out
             have hns192_3 := NB667_704.out
             have hns192_4 := NB671_704.out
             have hns192_5 := NB676_704.out
             have hms192_0 := NB704_649.out
             have hms192_1 := NB704_650.out
             have hms192_2 := NB704_663.out
             have hms192_3 := NB704_667.out
             have hms192_4 := NB704_671.out
             have hms192_5 := NB704_676.out
             refine skip_ (w1 := ?_) (by rfl) rfl ?_ ?_
             rotate_left
             ·go_simp
              rfl
             refine hK.out _ _ ⟨((cell_far (p := ⟨gb704, _, none⟩) NB649_704.out _).trans (hHeld.1)), ((cell_far (p := ⟨gb704, _, none⟩) NB650_704.out _).trans (hHeld.2))⟩ (fun hHeld => ?_)
             clear hK K
             refine pure_ (i := 10) (N := some 16) (v := ?_) (a' := ?_) #[true, true, true, true, true, true, true, true, true, true, true] rfl rfl (any_of HT_.out (by kernel_rfl)) (fun _ _ _ h => h) (Or.inl ⟨by rfl, ?_⟩) ?_ ?_
             rotate_left
             ·intro w'
              go_simp
              with_reducible rfl
             rotate_left
             ·simp only [Act.put, List.setIfInBounds_toArray, List.set_cons_zero, List.set_cons_succ, i64_w, i32_w]
              rfl
             refine done_ (done_of HT_.out (by kernel_rfl)) ?_
             go_upto_region 32 with (fail)
             go_cut [110] (fun v110 wc => ∃ (kq : Nat) (x110_172 : Bool), v110 = .bool x110_172 ∧ Aside0 (laws_FnExactJoinTries.j2 kq t691 x110_172 t692 = some true) ∧ Aside0 (kq ≤ kj106) ∧ Aside0 (Kd.R k76 76 wc w.heap.size (fun k_ => some k_ ≠ ((.slice Ao47 t687.length co47) : Value).ownBlock ∧ some k_ ≠ ((.slice Ao56 t689.length co56) : Value).ownBlock ∧ some k_ ≠ ((.slice Ao65 t672.length co65) : Value).ownBlock ∧ some k_ ≠ ((.slice Ao191 t700.length co191) : Value).ownBlock) (.slice Ao41 t659.length co41) t659) ∧ Aside0 (Kd.R k76 76 wc w.heap.size (fun k_ => some k_ ≠ ((.slice Ao41 t659.length co41) : Value).ownBlock ∧ some k_ ≠ ((.slice Ao56 t689.length co56) : Value).ownBlock ∧ some k_ ≠ ((.slice Ao65 t672.length co65) : Value).ownBlock ∧ some k_ ≠ ((.slice Ao191 t700.length co191) : Value).ownBlock) (.slice Ao47 t687.length co47) t687) ∧ Aside0 (Kd.R k76 76 wc w.heap.size (fun k_ => some k_ ≠ ((.slice Ao41 t659.length co41) : Value).ownBlock ∧ some k_ ≠ ((.slice Ao47 t687.length co47) : Value).ownBlock ∧ some k_ ≠ ((.slice Ao65 t672.length co65) : Value).ownBlock ∧ some k_ ≠ ((.slice Ao191 t700.length co191) : Value).ownBlock) (.slice Ao56 t689.length co56) t689) ∧ Aside0 (Kd.R k76 76 wc w.heap.size (fun k_ => some k_ ≠ ((.slice Ao41 t659.length co41) : Value).ownBlock ∧ some k_ ≠ ((.slice Ao47 t687.length co47) : Value).ownBlock ∧ some k_ ≠ ((.slice Ao56 t689.length co56) : Value).ownBlock ∧ some k_ ≠ ((.slice Ao191 t700.length co191) : Value).ownBlock) (.slice Ao65 t672.length co65) t692) ∧ Aside0 (Kd.R k76 76 wc w.heap.size (fun k_ => some k_ ≠ ((.slice Ao41 t659.length co41) : Value).ownBlock ∧ some k_ ≠ ((.slice Ao47 t687.length co47) : Value).ownBlock ∧ some k_ ≠ ((.slice Ao56 t689.length co56) : Value).ownBlock ∧ some k_ ≠ ((.slice Ao65 t672.length co65) : Value).ownBlock) (.slice Ao191 t700.length co191) t700) ∧ Aside0 (wc.heap[gb649]? = some (.cells #[(.slice A0_0 l0_0.length c0_0)] 36 (0, 0))) ∧ Aside0 (wc.heap[gb650]? = some (.cells #[(.slice A1_0 l1_0.length c1_0)] 36 (0, 0))) ∧ Aside0 (wc.heap[gb663]? = some (.cells #[(.slice Ao41 t659.length co41)] 26 (0, 0))) ∧ Aside0 (wc.heap[gb667]? = some (.cells #[(.slice Ao47 t687.length co47)] 26 (0, 0))) ∧ Aside0 (wc.heap[gb671]? = some (.cells #[(.slice Ao56 t689.length co56)] 26 (0, 0))) ∧ Aside0 (wc.heap[gb676]? = some (.cells #[(.slice Ao65 t672.length co65)] 26 (0, 0))) ∧ Aside0 (wc.heap[gb704]? = some (.cells #[(.slice Ao191 t700.length co191)] 26 (0, 0))) ∧ Aside0 (Below w.heap.size w wc))
             case first =>
              have H := HC173.out
              clear HC173
              replace H := Option.bind_eq_some_iff.mp H
              obtain ⟨t705, A1930, H⟩ := H
              replace H : (if t705 = true then (laws_FnExactJoinTries.j2 kj106 t691 (t703 != t662) t692) else (laws_FnExactJoinTries.j2 kj106 t691 true t692)) = some true := H
              have A193 := Aside0.mk A1930
              clear A1930
              by_cases c194 : t705 = true
              ·subst c194
               have H1 : (laws_FnExactJoinTries.j2 kj106 t691 (t703 != t662) t692) = some true := by rw [if_pos rfl] at H; exact H
               clear H
               have H := H1
               clear H1
               have H' := Aside0.mk H
               clear H
               have hnb195 := NB704_649.out
               have hnc195 := NB649_704.out
               have hnb196 := NB704_650.out
               have hnc196 := NB650_704.out
               have hnb197 := NB704_663.out
               have hnc197 := NB663_704.out
               have hnb198 := NB704_667.out
               have hnc198 := NB667_704.out
               have hnb199 := NB704_671.out
               have hnc199 := NB671_704.out
               have hnb200 := NB704_676.out
               have hnc200 := NB676_704.out
               have hcz201_0 : w190.cell? ⟨gb704, 0, none⟩ = some (.slice none 0 0) := (blk_cell BK704.out 0).trans rfl
               have hfz201_0 := blk_frozen BK704.out 0
               have hnb202 := NB663_649.out
               have hnc202 := NB649_663.out
               have hnb203 := NB663_650.out
               have hnc203 := NB650_663.out
               have hnb204 := NB663_667.out
               have hnc204 := NB667_663.out
               have hnb205 := NB663_671.out
               have hnc205 := NB671_663.out
               have hnb206 := NB663_676.out
               have hnc206 := NB676_663.out
               have hcz207_0 : w190.cell? ⟨gb663, 0, none⟩ = some (.slice Ao41 t659.length co41) := (blk_cell BK663.out 0).trans rfl
               have hfz207_0 := blk_frozen BK663.out 0
               go_wp2_with (first | ((with_reducible refine gate_callee (f := 16) rfl ?_); refine goesL_ (some 104) rfl rfl Tryd.func16 (by kernel_rfl) rfl #[.agg #[.slice Ao191 t700.length co191], .agg #[.slice Ao41 t659.length co41]] rfl (by (try simp only [List.map_toArray, List.map_cons, List.map_nil]); first | done | rfl | (simp only [List.length_drop, List.length_take]; rfl)) ?_; (with_reducible refine (laws_eqTrie.calls kj106 _ _ t700 _ _ t659 true _ ?side1 ?side2 ?side3 ?side4 A193.out).mono ?_); (case side1 => refine (Kd.R_reads' (e := 76) (base := w.heap.size) (ok := fun k_ => (some k_ ≠ (v695 : Value).ownBlock ∧ (some k_ ≠ (v698 : Value).ownBlock ∧ (some k_ ≠ (.slice Ao41 t659.length co41 : Value).ownBlock ∧ (some k_ ≠ (.slice Ao47 t687.length co47 : Value).ownBlock ∧ (some k_ ≠ (.slice Ao56 t689.length co56 : Value).ownBlock ∧ some k_ ≠ (.slice Ao65 t672.length co65 : Value).ownBlock)))))) (n := t700.length) (c := co191) ?_).2.2; exact (by (with_reducible repeat (first | apply Kd.R_alloc | apply Kd.R_drewN | apply Kd.R_drew)); exact (Kd.R_mono (R_same_ (Kd.R_far (p := ⟨gb704, 0, none⟩) (Kd.R_types HO702.out BK704.out (by decide)) (fun _ hk => hk.2) (.slice Ao191 t700.length co191)) rfl) (fun _ h_ => h_.1)))); (case side2 => exact (Kd.R_reads' HO702.out).2.1); (case side3 => refine (Kd.R_reads' (e := 76) (base := w.heap.size) (ok := fun k_ => (some k_ ≠ (v695 : Value).ownBlock ∧ (some k_ ≠ (v698 : Value).ownBlock ∧ (some k_ ≠ (.slice Ao191 t700.length co191 : Value).ownBlock ∧ (some k_ ≠ (.slice Ao47 t687.length co47 : Value).ownBlock ∧ (some k_ ≠ (.slice Ao56 t689.length co56 : Value).ownBlock ∧ some k_ ≠ (.slice Ao65 t672.length co65 : Value).ownBlock)))))) (n := t659.length) (c := co41) ?_).2.2; exact (by (with_reducible repeat (first | apply Kd.R_alloc | apply Kd.R_drewN | apply Kd.R_drew)); exact (Kd.R_mono (R_same_ (Kd.R_far (p := ⟨gb704, 0, none⟩) (Kd.R_types HO_664000.out BK704.out (by decide)) (fun _ hk => hk.2) (.slice Ao191 t700.length co191)) rfl) (fun _ h_ => h_.1)))); (case side4 => exact (Kd.R_reads' HO_664000.out).2.1); rintro e w208 ⟨rfl, hb⟩; refine ⟨_, rfl, ?_⟩; have n0_ := Aside0.mk (Kd.R_below (by (with_reducible repeat (first | apply Kd.R_alloc | apply Kd.R_drewN | apply Kd.R_drew)); exact (Kd.R_mono (R_same_ (Kd.R_far (p := ⟨gb704, 0, none⟩) (Kd.R_types HO_664000.out BK704.out (by decide)) (fun _ hk => hk.2) (.slice Ao191 t700.length co191)) rfl) (fun _ h_ => h_.1))) hb); have n1_ := Aside0.mk (Kd.R_below (by (with_reducible repeat (first | apply Kd.R_alloc | apply Kd.R_drewN | apply Kd.R_drew)); exact (Kd.R_mono (R_same_ (Kd.R_far (p := ⟨gb704, 0, none⟩) (Kd.R_types HO_668000.out BK704.out (by decide)) (fun _ hk => hk.2) (.slice Ao191 t700.length co191)) rfl) (fun _ h_ => h_.1))) hb); have n2_ := Aside0.mk (Kd.R_below (by (with_reducible repeat (first | apply Kd.R_alloc | apply Kd.R_drewN | apply Kd.R_drew)); exact (Kd.R_mono (R_same_ (Kd.R_far (p := ⟨gb704, 0, none⟩) (Kd.R_types HO_672000.out BK704.out (by decide)) (fun _ hk => hk.2) (.slice Ao191 t700.length co191)) rfl) (fun _ h_ => h_.1))) hb); have n3_ := Aside0.mk (Kd.R_below (by (with_reducible repeat (first | apply Kd.R_alloc | apply Kd.R_drewN | apply Kd.R_drew)); exact (Kd.R_mono (R_same_ (Kd.R_far (p := ⟨gb704, 0, none⟩) (Kd.R_types HO_677000.out BK704.out (by decide)) (fun _ hk => hk.2) (.slice Ao191 t700.length co191)) rfl) (fun _ h_ => h_.1))) hb); have n4_ := Aside0.mk (Kd.R_below (by (with_reducible repeat (first | apply Kd.R_alloc | apply Kd.R_drewN | apply Kd.R_drew)); exact (Kd.R_mono (R_same_ (Kd.R_far (p := ⟨gb704, 0, none⟩) (Kd.R_types HO696.out BK704.out (by decide)) (fun _ hk => hk.2) (.slice Ao191 t700.length co191)) rfl) (fun _ h_ => h_.1))) hb); have n5_ := Aside0.mk (Kd.R_below (by (with_reducible repeat (first | apply Kd.R_alloc | apply Kd.R_drewN | apply Kd.R_drew)); exact (Kd.R_mono (R_same_ (Kd.R_far (p := ⟨gb704, 0, none⟩) (Kd.R_types HO699.out BK704.out (by decide)) (fun _ hk => hk.2) (.slice Ao191 t700.length co191)) rfl) (fun _ h_ => h_.1))) hb); have n6_ := Aside0.mk (Kd.R_below (by (with_reducible repeat (first | apply Kd.R_alloc | apply Kd.R_drewN | apply Kd.R_drew)); exact (Kd.R_mono (R_same_ (Kd.R_far (p := ⟨gb704, 0, none⟩) (Kd.R_types HO702.out BK704.out (by decide)) (fun _ hk => hk.2) (.slice Ao191 t700.length co191)) rfl) (fun _ h_ => h_.1))) hb); have n7_ := Aside0.mk (blk_below (g := gb649) (o := .cells #[.slice A0_0 l0_0.length c0_0] 36 (0, 0)) (by (with_reducible repeat (first | refine blk_drewN ?_ _ | refine blk_drew ?_ | refine blk_alloc ?_ _)); refine blk_far ?_ NB649_704.out _; (with_reducible repeat (first | refine blk_drewN ?_ _ | refine blk_drew ?_ | refine blk_alloc ?_ _)); exact BK649.out) hb); have n8_ := Aside0.mk (blk_below (g := gb650) (o := .cells #[.slice A1_0 l1_0.length c1_0] 36 (0, 0)) (by (with_reducible repeat (first | refine blk_drewN ?_ _ | refine blk_drew ?_ | refine blk_alloc ?_ _)); refine blk_far ?_ NB650_704.out _; (with_reducible repeat (first | refine blk_drewN ?_ _ | refine blk_drew ?_ | refine blk_alloc ?_ _)); exact BK650.out) hb); have n9_ := Aside0.mk (blk_below (g := gb663) (o := .cells #[.slice Ao41 t659.length co41] 26 (0, 0)) (by (with_reducible repeat (first | refine blk_drewN ?_ _ | refine blk_drew ?_ | refine blk_alloc ?_ _)); refine blk_far ?_ NB663_704.out _; (with_reducible repeat (first | refine blk_drewN ?_ _ | refine blk_drew ?_ | refine blk_alloc ?_ _)); exact BK663.out) hb); have n10_ := Aside0.mk (blk_below (g := gb667) (o := .cells #[.slice Ao47 t687.length co47] 26 (0, 0)) (by (with_reducible repeat (first | refine blk_drewN ?_ _ | refine blk_drew ?_ | refine blk_alloc ?_ _)); refine blk_far ?_ NB667_704.out _; (with_reducible repeat (first | refine blk_drewN ?_ _ | refine blk_drew ?_ | refine blk_alloc ?_ _)); exact BK667.out) hb); have n11_ := Aside0.mk (blk_below (g := gb671) (o := .cells #[.slice Ao56 t689.length co56] 26 (0, 0)) (by (with_reducible repeat (first | refine blk_drewN ?_ _ | refine blk_drew ?_ | refine blk_alloc ?_ _)); refine blk_far ?_ NB671_704.out _; (with_reducible repeat (first | refine blk_drewN ?_ _ | refine blk_drew ?_ | refine blk_alloc ?_ _)); exact BK671.out) hb); have n12_ := Aside0.mk (blk_below (g := gb676) (o := .cells #[.slice Ao65 t672.length co65] 26 (0, 0)) (by (with_reducible repeat (first | refine blk_drewN ?_ _ | refine blk_drew ?_ | refine blk_alloc ?_ _)); refine blk_far ?_ NB676_704.out _; (with_reducible repeat (first | refine blk_drewN ?_ _ | refine blk_drew ?_ | refine blk_alloc ?_ _)); exact BK676.out) hb); have n13_ := Aside0.mk (blk_below (g := gb704) (o := .cells #[.slice Ao191 t700.length co191] 26 (0, 0)) (by (with_reducible repeat (first | refine blk_drewN ?_ _ | refine blk_drew ?_ | refine blk_alloc ?_ _)); refine blk_put (cs := #[.slice none 0 0]) ?_ 0 _ rfl; (with_reducible repeat (first | refine blk_drewN ?_ _ | refine blk_drew ?_ | refine blk_alloc ?_ _)); exact BK704.out) hb); have n14_ := Aside0.mk (below_step (by repeat (first | (with_reducible first | exact HB.out | apply below_alloc | apply pw_below_drewN | apply below_drew1 | refine below_set ?_ GE649.out | refine below_set ?_ GE650.out | refine below_set ?_ GE663.out | refine below_set ?_ GE667.out | refine below_set ?_ GE671.out | refine below_set ?_ GE676.out | refine below_set ?_ GE704.out) | exact HB.out)) hb); clear HO_664000; clear HO_668000; clear HO_672000; clear HO_677000; clear HO696; clear HO699; clear HO702; clear BK649; clear BK650; clear BK663; clear BK667; clear BK671; clear BK676; clear BK704; clear HB; have HO_664000 := n0_; have HO_668000 := n1_; have HO_672000 := n2_; have HO_677000 := n3_; have HO696 := n4_; have HO699 := n5_; have HO702 := n6_; have BK649 := n7_; have BK650 := n8_; have BK663 := n9_; have BK667 := n10_; have BK671 := n11_; have BK676 := n12_; have BK704 := n13_; have HB := n14_; clear n0_ n1_ n2_ n3_ n4_ n5_ n6_ n7_ n8_ n9_ n10_ n11_ n12_ n13_ n14_; (try clear hb); (try clear hb2); (try clear hk); (try clear hi)))
               go_meet
               case rel => exact ⟨_, ((t703 != t662)), (by first | rfl | (simp; done) | (simp [*]; done)), H', ⟨by have := HJ24.out; have := HJ106.out; first | omega | exact Nat.le_refl _⟩, ⟨by (try simp only [hl668000_106]); (try simp only [hl672000_106]); (with_reducible repeat (first | apply Kd.R_alloc | apply Kd.R_drewN | apply Kd.R_drew)); exact Kd.R_mono HO_664000.out (fun _ hk => ⟨hk.2.2.2.1, ⟨hk.2.2.2.2.1, ⟨hk.2.2.2.2.2, hk.2.2.1⟩⟩⟩)⟩, ⟨by (try simp only [hl668000_106]); (try simp only [hl672000_106]); (with_reducible repeat (first | apply Kd.R_alloc | apply Kd.R_drewN | apply Kd.R_drew)); exact Kd.R_mono HO_668000.out (fun _ hk => ⟨hk.2.2.2.1, ⟨hk.2.2.2.2.1, ⟨hk.2.2.2.2.2, hk.2.2.1⟩⟩⟩)⟩, ⟨by (try simp only [hl668000_106]); (try simp only [hl672000_106]); (with_reducible repeat (first | apply Kd.R_alloc | apply Kd.R_drewN | apply Kd.R_drew)); exact Kd.R_mono HO_672000.out (fun _ hk => ⟨hk.2.2.2.1, ⟨hk.2.2.2.2.1, ⟨hk.2.2.2.2.2, hk.2.2.1⟩⟩⟩)⟩, ⟨by (try simp only [hl668000_106]); (try simp only [hl672000_106]); (with_reducible repeat (first | apply Kd.R_alloc | apply Kd.R_drewN | apply Kd.R_drew)); exact Kd.R_mono HO_677000.out (fun _ hk => ⟨hk.2.2.2.1, ⟨hk.2.2.2.2.1, ⟨hk.2.2.2.2.2, hk.2.2.1⟩⟩⟩)⟩, ⟨by (try simp only [hl668000_106]); (try simp only [hl672000_106]); (with_reducible repeat (first | apply Kd.R_alloc | apply Kd.R_drewN | apply Kd.R_drew)); exact Kd.R_mono HO702.out (fun _ hk => ⟨hk.2.2.1, ⟨hk.2.2.2.1, ⟨hk.2.2.2.2.1, hk.2.2.2.2.2⟩⟩⟩)⟩, ⟨by (try simp only [hl668000_106]); (try simp only [hl672000_106]); (with_reducible repeat (first | refine blk_drewN ?_ _ | refine blk_drew ?_ | refine blk_alloc ?_ _)); exact BK649.out⟩, ⟨by (try simp only [hl668000_106]); (try simp only [hl672000_106]); (with_reducible repeat (first | refine blk_drewN ?_ _ | refine blk_drew ?_ | refine blk_alloc ?_ _)); exact BK650.out⟩, ⟨by (try simp only [hl668000_106]); (try simp only [hl672000_106]); (with_reducible repeat (first | refine blk_drewN ?_ _ | refine blk_drew ?_ | refine blk_alloc ?_ _)); exact BK663.out⟩, ⟨by (try simp only [hl668000_106]); (try simp only [hl672000_106]); (with_reducible repeat (first | refine blk_drewN ?_ _ | refine blk_drew ?_ | refine blk_alloc ?_ _)); exact BK667.out⟩, ⟨by (try simp only [hl668000_106]); (try simp only [hl672000_106]); (with_reducible repeat (first | refine blk_drewN ?_ _ | refine blk_drew ?_ | refine blk_alloc ?_ _)); exact BK671.out⟩, ⟨by (try simp only [hl668000_106]); (try simp only [hl672000_106]); (with_reducible repeat (first | refine blk_drewN ?_ _ | refine blk_drew ?_ | refine blk_alloc ?_ _)); exact BK676.out⟩, ⟨by (try simp only [hl668000_106]); (try simp only [hl672000_106]); (with_reducible repeat (first | refine blk_drewN ?_ _ | refine blk_drew ?_ | refine blk_alloc ?_ _)); exact BK704.out⟩, ⟨by repeat (first | (with_reducible first | exact HB.out | apply below_alloc | apply pw_below_drewN | apply below_drew1 | refine below_set ?_ GE649.out | refine below_set ?_ GE650.out | refine below_set ?_ GE663.out | refine below_set ?_ GE667.out | refine below_set ?_ GE671.out | refine below_set ?_ GE676.out | refine below_set ?_ GE704.out) | exact HB.out)⟩⟩
              ·replace c194 := Bool.eq_false_iff.mpr c194
               subst c194
               have H1 : (laws_FnExactJoinTries.j2 kj106 t691 true t692) = some true := by rw [if_neg (show ¬ (false = true) by decide)] at H; exact H
               exact absurd H1 (by cases kj106 <;> simp [laws_FnExactJoinTries.j2])
             case rest =>
              clear HC173
              try clear c1
              try clear c2
              try clear p2
              try clear c3
              try clear c16
              try clear c19
              try clear c20
              try clear c21
              try clear c22
              try clear c23
              try clear c32
              try clear c194
              try clear c195
              try clear c196
              try clear c197
              try clear c198
              try clear c199
              try clear c200
              try clear c202
              try clear c203
              try clear c204
              try clear c205
              try clear c206
              try clear c209
              try clear c210
              try clear c211
              try clear c212
              try clear c213
              try clear c214
              try clear c216
              try clear c217
              try clear c218
              try clear c219
              try clear c220
              try clear hcz201_0
              try clear hcz207_0
              try clear hcz215_0
              try clear hcz221_0
              try clear hfz201_0
              try clear hfz207_0
              try clear hfz215_0
              try clear hfz221_0
              obtain ⟨kq, x110_172, rfl, HA, HJ172, HO_664000, HO_668000, HO_672000, HO_677000, HO_705000, BK649, BK650, BK663, BK667, BK671, BK676, BK704, HB⟩ := hcut
              have hl677000_172 := (Kd.R_reads' HO_677000.out).1
              rw [hl677000_172] at HO_677000
              (try simp only [hl677000_172])
              (try simp only [hl677000_172] at BK649)
              (try simp only [hl677000_172] at BK650)
              (try simp only [hl677000_172] at BK663)
              (try simp only [hl677000_172] at BK667)
              (try simp only [hl677000_172] at BK671)
              (try simp only [hl677000_172] at BK676)
              (try simp only [hl677000_172] at BK704)
              (try simp only [hl677000_172] at HO_664000)
              (try simp only [hl677000_172] at HO_668000)
              (try simp only [hl677000_172] at HO_672000)
              (try simp only [hl677000_172] at HO_705000)
              cases kq with
              | zero => exact absurd HA.out (by simp [laws_FnExactJoinTries.j2])
              | succ kj172 =>
               have H := HA.out
               clear HA
               simp only [laws_FnExactJoinTries.j2] at H
               by_cases c223 : x110_172 = true
               ·subst c223
                have H1 : (some false) = some true := by rw [if_pos rfl] at H; exact H
                exact absurd H1 (by simp)
               ·replace c223 := Bool.eq_false_iff.mpr c223
                subst c223
                have H1 : ((laws_heldTrie.f kj172 t692 1).bind fun t706 => (if t706 < 0 then (some false) else (if t706 = t691 then (some true) else (some false)))) = some true := by rw [if_neg (show ¬ (false = true) by decide)] at H; exact H
                clear H
                have H := H1
                clear H1
                replace H := Option.bind_eq_some_iff.mp H
                obtain ⟨t706, A2240, H⟩ := H
                replace H : (if t706 < 0 then (some false) else (if t706 = t691 then (some true) else (some false))) = some true := H
                have A224 := Aside0.mk A2240
                clear A2240
                by_cases c225 : t706 < 0
                ·rw [if_pos c225] at H
                 exact absurd H (by simp)
                ·rw [if_neg c225] at H
                 have c225b0 : decide (t706 < 0) = false := decide_eq_false c225
                 clear c225
                 by_cases c234 : t706 = t691
                 ·rw [if_pos c234] at H
                  have c234b0 : (t706 == t691) = true := beq_iff_eq.mpr c234
                  have c234b1 : (t706 != t691) = false := bne_eq_false_iff_eq.mpr c234
                  clear c234
                  (first | (obtain rfl := Option.some.inj H) | (have hH_ := Option.some.inj H; try simp only [hH_]))
                  have hnb235 := NB676_649.out
                  have hnc235 := NB649_676.out
                  have hnb236 := NB676_650.out
                  have hnc236 := NB650_676.out
                  have hnb237 := NB676_663.out
                  have hnc237 := NB663_676.out
                  have hnb238 := NB676_667.out
                  have hnc238 := NB667_676.out
                  have hnb239 := NB676_671.out
                  have hnc239 := NB671_676.out
                  have hnb240 := NB676_704.out
                  have hnc240 := NB704_676.out
                  have hcz241_0 : wc.cell? ⟨gb676, 0, none⟩ = some (.slice Ao65 t692.length co65) := (blk_cell BK676.out 0).trans rfl
                  have hfz241_0 := blk_frozen BK676.out 0
                  go_wp2_with (first | ((with_reducible refine gate_callee (f := 20) rfl ?_); refine goesL_ (some 113) rfl rfl Tryd.func20 (by kernel_rfl) rfl #[.agg #[.slice Ao65 t692.length co65], .int .i64 1] rfl (by (try simp only [List.map_toArray, List.map_cons, List.map_nil]); first | done | rfl | (simp only [List.length_drop, List.length_take]; rfl)) ?_; (with_reducible refine (laws_heldTrie.calls kj172 _ _ t692 1 t706 _ ?side1 ?side2 A224.out).mono ?_); (case side1 => repeat (first | exact (Kd.R_reads' HO_677000.out).2.2 | (with_reducible refine Kd.C_alloc ?_ _) | (with_reducible refine Kd.C_drewN ?_ _) | (with_reducible refine Kd.C_drew ?_))); (case side2 => exact (Kd.R_reads' HO_677000.out).2.1); rintro e w242 ⟨rfl, hb⟩; refine ⟨_, rfl, ?_⟩; have n0_ := Aside0.mk (Kd.R_below (by (with_reducible repeat (first | apply Kd.R_alloc | apply Kd.R_drewN | apply Kd.R_drew)); exact HO_664000.out) hb); have n1_ := Aside0.mk (Kd.R_below (by (with_reducible repeat (first | apply Kd.R_alloc | apply Kd.R_drewN | apply Kd.R_drew)); exact HO_668000.out) hb); have n2_ := Aside0.mk (Kd.R_below (by (with_reducible repeat (first | apply Kd.R_alloc | apply Kd.R_drewN | apply Kd.R_drew)); exact HO_672000.out) hb); have n3_ := Aside0.mk (Kd.R_below (by (with_reducible repeat (first | apply Kd.R_alloc | apply Kd.R_drewN | apply Kd.R_drew)); exact HO_677000.out) hb); have n4_ := Aside0.mk (Kd.R_below (by (with_reducible repeat (first | apply Kd.R_alloc | apply Kd.R_drewN | apply Kd.R_drew)); exact HO_705000.out) hb); have n5_ := Aside0.mk (blk_below (g := gb649) (o := .cells #[.slice A0_0 l0_0.length c0_0] 36 (0, 0)) (by (with_reducible repeat (first | refine blk_drewN ?_ _ | refine blk_drew ?_ | refine blk_alloc ?_ _)); exact BK649.out) hb); have n6_ := Aside0.mk (blk_below (g := gb650) (o := .cells #[.slice A1_0 l1_0.length c1_0] 36 (0, 0)) (by (with_reducible repeat (first | refine blk_drewN ?_ _ | refine blk_drew ?_ | refine blk_alloc ?_ _)); exact BK650.out) hb); have n7_ := Aside0.mk (blk_below (g := gb663) (o := .cells #[.slice Ao41 t659.length co41] 26 (0, 0)) (by (with_reducible repeat (first | refine blk_drewN ?_ _ | refine blk_drew ?_ | refine blk_alloc ?_ _)); exact BK663.out) hb); have n8_ := Aside0.mk (blk_below (g := gb667) (o := .cells #[.slice Ao47 t687.length co47] 26 (0, 0)) (by (with_reducible repeat (first | refine blk_drewN ?_ _ | refine blk_drew ?_ | refine blk_alloc ?_ _)); exact BK667.out) hb); have n9_ := Aside0.mk (blk_below (g := gb671) (o := .cells #[.slice Ao56 t689.length co56] 26 (0, 0)) (by (with_reducible repeat (first | refine blk_drewN ?_ _ | refine blk_drew ?_ | refine blk_alloc ?_ _)); exact BK671.out) hb); have n10_ := Aside0.mk (blk_below (g := gb676) (o := .cells #[.slice Ao65 t692.length co65] 26 (0, 0)) (by (with_reducible repeat (first | refine blk_drewN ?_ _ | refine blk_drew ?_ | refine blk_alloc ?_ _)); exact BK676.out) hb); have n11_ := Aside0.mk (blk_below (g := gb704) (o := .cells #[.slice Ao191 t700.length co191] 26 (0, 0)) (by (with_reducible repeat (first | refine blk_drewN ?_ _ | refine blk_drew ?_ | refine blk_alloc ?_ _)); exact BK704.out) hb); have n12_ := Aside0.mk (below_step (by repeat (first | (with_reducible first | exact HB.out | apply below_alloc | apply pw_below_drewN | apply below_drew1 | refine below_set ?_ GE649.out | refine below_set ?_ GE650.out | refine below_set ?_ GE663.out | refine below_set ?_ GE667.out | refine below_set ?_ GE671.out | refine below_set ?_ GE676.out | refine below_set ?_ GE704.out) | exact HB.out)) hb); clear HO_664000; clear HO_668000; clear HO_672000; clear HO_677000; clear HO_705000; clear BK649; clear BK650; clear BK663; clear BK667; clear BK671; clear BK676; clear BK704; clear HB; have HO_664000 := n0_; have HO_668000 := n1_; have HO_672000 := n2_; have HO_677000 := n3_; have HO_705000 := n4_; have BK649 := n5_; have BK650 := n6_; have BK663 := n7_; have BK667 := n8_; have BK671 := n9_; have BK676 := n10_; have BK704 := n11_; have HB := n12_; clear n0_ n1_ n2_ n3_ n4_ n5_ n6_ n7_ n8_ n9_ n10_ n11_ n12_; (try clear hb); (try clear hb2); (try clear hk); (try clear hi)))
                  go_ret
                  exact ⟨by first | rfl | (simp [errW_none, errW_some] <;> rfl) | (simp [*, errW_none, errW_some] <;> rfl), by repeat (first | (with_reducible first | exact HB.out | apply below_alloc | apply pw_below_drewN | apply below_drew1 | refine below_set ?_ GE649.out | refine below_set ?_ GE650.out | refine below_set ?_ GE663.out | refine below_set ?_ GE667.out | refine below_set ?_ GE671.out | refine below_set ?_ GE676.out | refine below_set ?_ GE704.out) | exact HB.out)⟩
                 ·rw [if_neg c234] at H
                  exact absurd H (by simp)
            ·rw [if_neg c169] at H
             exact absurd H (by simp)
       ·replace c104 := Bool.eq_false_iff.mpr c104
        subst c104
        have H1 : (some false) = some true := by rw [if_neg (show ¬ (false = true) by decide)] at H; exact H
        exact absurd H1 (by simp)
      ·replace c101 := Bool.eq_false_iff.mpr c101
       subst c101
       have H1 : (some false) = some true := by rw [if_neg (show ¬ (false = true) by decide)] at H; exact H
       exact absurd H1 (by simp)
end Go.Proofs.YtefcbnlljpdjnaaDoor.Q
namespace Go.Proofs.YtefcbnlljpdjnaaDoor.Q
open Go.RowKit Go.Proofs.YtefcbnlljpdjnaaDoorW.PrintWords Go.Proofs.YtefcbnlljpdjnaaDoorW.PrintLast
theorem both_JoinTries (l0 l1 : List IN) : ∃ r, Ev (fun k => spec_JoinTries.f k l0 l1) r ∧ Ev (fun k => impl_JoinTries.f k l0 l1) r ∧ r.1.length ≤ 1048576 := by
  unfold spec_JoinTries.f impl_JoinTries.f
  have h2 := two_ev l0 l1
  rcases two_cases l0 l1 with hf | ⟨wa, wb, hva, hvb, rfl, rfl, ha, hb⟩
  · rw [hf] at h2
    refine ⟨([], false), Ev.bind h2 (Ev.neg (by decide) (Ev.pure _)), ?_, by decide⟩
    rcases two_no hf with ha | ⟨ha, hb⟩
    · refine Ev.bind (implT _ ha) (Ev.neg (by decide) (Ev.succ ?_))
      simp only [impl_JoinTries.j0]
      exact Ev.pos (by simp) (Ev.pure _)
    · refine Ev.bind (implT _ ha) (Ev.pos rfl (Ev.bind (implT _ hb) (Ev.succ ?_)))
      simp only [impl_JoinTries.j0]
      exact Ev.pos (by simp) (Ev.pure _)
  · rw [ha, hb] at h2
    have a3 := hva.len
    have b3 := hvb.len
    have hl : (wa ++ wb).length ≤ 80 := by rw [List.length_append]; omega
    refine ⟨madeW (wa ++ wb), Ev.bind h2 (Ev.pos rfl (Ev.bind (specWords hva) (Ev.bind (specWords hvb) (Ev.pos (by omega) (Ev.bind (spec5 (wa ++ wb) (by omega)) (Ev.pure _)))))), ?_, madeW_le _⟩
    refine Ev.bind (implT _ ha) (Ev.pos rfl (Ev.bind (implT _ hb) (Ev.succ ?_)))
    simp only [impl_JoinTries.j0]
    exact Ev.neg (by simp) (Ev.bind (implWords hva) (Ev.bind (implWords hvb) (Ev.pos (by omega) (Ev.bindc (impl5 (wa ++ wb) (by omega)) (Ev.pure _)))))
theorem pure_FnExactJoinTries (l0 : List LN) (l1 : List LN) (hl_l0 : l0.length ≤ maxLen) (hI_l0 : ∀ x ∈ l0, I64 x.f0 ∧ I64 x.f1) (hl_l1 : l1.length ≤ maxLen) (hI_l1 : ∀ x ∈ l1, I64 x.f0 ∧ I64 x.f1) : ∃ k, laws_FnExactJoinTries.f k l0 l1 = some true := by
  refine Ev.ex ?_
  unfold laws_FnExactJoinTries.f
  by_cases h_l0 : l0.length ≤ 1048576
  case neg => exact Ev.bindc (szTrie_eq l0 (by unfold maxLen at hl_l0; omega)) (by rw [if_neg h_l0]; exact Ev.pos (by decide) (Ev.pure _))
  refine Ev.bindc (szTrie_eq l0 (by unfold maxLen at hl_l0; omega)) ?_
  rw [if_pos h_l0]
  refine Ev.neg (by omega) ?_
  have ht_l0 := toTrie_ev l0 (by omega)
  have hc_l0 : (cv l0).length ≤ 1048576 := by rw [cv_length]; omega
  rw [show (1048576 - (l0.length : Int)) = ((1048576 - l0.length : Nat) : Int) by omega]
  by_cases h_l1 : l1.length ≤ 1048576 - l0.length
  case neg => exact Ev.bindc (szTrie_gen l1 _ (by unfold maxLen at hl_l1; omega) (by omega)) (by rw [if_neg h_l1]; exact Ev.pos (by decide) (Ev.pure _))
  refine Ev.bindc (szTrie_gen l1 _ (by unfold maxLen at hl_l1; omega) (by omega)) ?_
  rw [if_pos h_l1]
  refine Ev.neg (by omega) ?_
  have ht_l1 := toTrie_ev l1 (by omega)
  have hc_l1 : (cv l1).length ≤ 1048576 := by rw [cv_length]; omega
  obtain ⟨r, e1, e2, hr⟩ := both_JoinTries (cv l0) (cv l1)
  have hq := eqTrie_ev r.1 r.1 hr
  refine (Ev.bind ht_l0 (Ev.bind ht_l1 (Ev.bind e1 (Ev.bind ht_l0 (Ev.bind ht_l1 (Ev.bind e2 (Ev.bind hq (Ev.pos (by simp) (Ev.succ ?_)))))))))
  simp only [laws_FnExactJoinTries.j0]
  obtain ⟨m0, hm0⟩ := markTrie2_ev (cv l0) 1 hc_l0 (by omega)
  obtain ⟨m1, hm1⟩ := markTrie2_ev (cv l1) (1 + 3 * (cv l0).length) hc_l1 (by omega)
  refine Ev.neg (by simp) (Ev.bind ht_l0 (Ev.bind (eqTrie_ev _ _ hc_l0) (Ev.pos (by simp) (Ev.bind ht_l1 (Ev.bind (eqTrie_ev _ _ hc_l1) (Ev.pos (by simp) (Ev.bind hm0 (Ev.bind hm1 (Ev.neg (by simp only; omega) (Ev.bind hq (Ev.pos (by simp) (Ev.succ ?_))))))))))))
  simp only [laws_FnExactJoinTries.j1]
  obtain ⟨ms, hs1, hs2⟩ := markH_ev r.1 hr
  refine Ev.neg (by simp) (Ev.bind hs1 (Ev.bind hs2 (Ev.neg (by omega) (Ev.pos rfl (Ev.bind ht_l0 (Ev.bind ht_l1 (Ev.bind e2 (Ev.bind hq (Ev.pos (by simp) (Ev.succ ?_))))))))))
  simp only [laws_FnExactJoinTries.j2]
  exact Ev.neg (by simp) (Ev.bind hs2 (Ev.neg (by omega) (Ev.pos rfl (Ev.pure _))))
end Go.Proofs.YtefcbnlljpdjnaaDoor.Q
namespace Go.Proofs.YtefcbnlljpdjnaaDoor.Pure
theorem FnExactJoinTries (l0 : List Q.LN) (l1 : List Q.LN) (hl_l0 : l0.length ≤ maxLen) (hI_l0 : ∀ x ∈ l0, Q.I64 x.f0 ∧ Q.I64 x.f1) (hl_l1 : l1.length ≤ maxLen) (hI_l1 : ∀ x ∈ l1, Q.I64 x.f0 ∧ Q.I64 x.f1) : ∃ k, Q.laws_FnExactJoinTries.f k l0 l1 = some true := Q.pure_FnExactJoinTries l0 l1 hl_l0 hI_l0 hl_l1 hI_l1
end Go.Proofs.YtefcbnlljpdjnaaDoor.Pure
