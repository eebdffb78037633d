/- Texts of one proof put together: walks of the program's functions, and plain laws on what they compute. -/
import Derived.Test.YtefcbnlljpdjnaaDoorE0
import Derived.Test.YtefcbnlljpdjnaaDoorE1
import Derived.Test.YtefcbnlljpdjnaaDoorE2
import Derived.Test.YtefcbnlljpdjnaaDoorE3
import Derived.Test.YtefcbnlljpdjnaaDoorEwWords
import Derived.Test.YtefcbnlljpdjnaaDoorEwLast
import Derived.Test.YtefcbnlljpdjnaaDoorEwTab
import Derived.Test.YtefcbnlljpdjnaaDoorEwApart
import Derived.Test.YtefcbnlljpdjnaaDoorEwFoot
import Derived.Test.YtefcbnlljpdjnaaDoorEwKept
import Derived.Test.YtefcbnlljpdjnaaDoorEwShare
import Derived.Test.YtefcbnlljpdjnaaDoorEwN
import Derived.Test.YtefcbnlljpdjnaaDoorEwEqStruct
import Derived.Test.YtefcbnlljpdjnaaDoorEwRepsOne
import Derived.Test.YtefcbnlljpdjnaaDoorEwInv
import Derived.Test.YtefcbnlljpdjnaaDoorEwGuard
import Derived.Test.YtefcbnlljpdjnaaDoorEwMore
import Derived.Test.YtefcbnlljpdjnaaDoorProg
import Derived.Below
import Derived.Deep.Draws
import Derived.Deep.AppendLies
import Derived.Maps.AppendAt
import Derived.OwnWalk
import Derived.Laws.BytesArg
import Derived.Laws.MakeOwn
import Derived.Laws.OwnMore
import Derived.Deep.OwnRows
import Derived.Tactics
import Derived.Lib.ConvBytes
import Derived.Laws.Slices
import Derived.WalkKit
import Derived.KernelRfl
import Derived.RowKit3
import Derived.Deep.LoopGhost
import Derived.Deep.QuietTactic
import Derived.BigQuiet
import Derived.WideLaws
import Derived.Deep.DeepCutAuto
import Derived.Deep.CutBlock
import Derived.Deep.RegionHeld3
import Derived.Laws.Rows
import Derived.Lib.AppendStr
import Derived.ArgAppend
import Derived.Laws.IdiomCopy
import Derived.OrdersHeld
import Derived.Laws.BitsLemmas
import Derived.RowKit
import Derived.Shelf.Sort.Plain
import Derived.Shelf.Slices.CompactS
import Derived.Shelf.Slices.In.SortNone
import Derived.RangeFuncBox
import Derived.RangeFuncLeaves
import Derived.Shelf.Abstract
import Derived.OwnWalkIn
import Derived.TacticsInMore
import Derived.LoopNIn
import Derived.LoopIn
import Derived.Lib.OwnBridge
import Derived.Sort.OwnSorted
import Derived.Sort.Grow
import Derived.Lib.SlicesCompact
import Derived.Shelf.Strings.OnBuilder
import Derived.Ground.NamesProg
import Derived.Ground.SlgfProg
import Derived.Maps.Own
import Derived.StringKeys
import Derived.Maps.OwnOps
import Derived.Maps.OwnSet
import Derived.Maps.Views
import Derived.Laws.AppendOwn
import Derived.Deep.DrawnRows
import Derived.Sort.Walk0
import Derived.Lib.Strings
import Derived.Shelf.SlicesE.DeleteFunc
import Derived.Lib.SliceRun
import Derived.Shelf.Strings.SlTrimAscii
set_option linter.unusedVariables false
set_option linter.unusedSimpArgs false
namespace Go.Proofs.YtefcbnlljpdjnaaDoor.Q
open Go.RowKit Go.Proofs.YtefcbnlljpdjnaaDoorW.PrintWords Go.Proofs.YtefcbnlljpdjnaaDoorW.PrintLast Go.Proofs.YtefcbnlljpdjnaaDoorW.PrintMore
attribute [local go_sem] run_field_25 run_field_26 run_field_35 run_field_36 isSome_setCell max2_int min2_int max_two min_two max_three min_three max_four min_four   -- for this text's walks alone
set_option linter.unusedVariables false
set_option linter.unusedSimpArgs false
mutual
def laws_FnExactTimesTrie.j0 : Nat → Bool → Bool → Bool → List (S81) → List (S81) → List (S76) → List (S76) → List (S76) → List (S76) → Option (Bool)
  | 0, _, _, _, _, _, _, _, _, _ => none
  | k + 1, x7, x11, x53, x753000, x754000, x767000, x771000, x775000, x780000 => if x53 = true then (some false) else ((laws_toTrie.f k x753000).bind fun t781 => ((laws_eqTrie.f k x771000 t781).bind fun t784 => (if t784 = true then ((laws_toTrie.f k x754000).bind fun t785 => ((laws_eqTrie.f k x775000 t785).bind fun t788 => (if t788 = true then ((laws_markTrie.f k x771000 1).bind fun bt789 => ((laws_markTrie.f k x775000 bt789.1).bind fun bt791 => (if bt791.1 < 0 then (laws_FnExactTimesTrie.j1 k x7 true x753000 x754000 x767000 x780000) else ((laws_eqTrie.f k x780000 x767000).bind fun t793 => (if t793 = true then (laws_FnExactTimesTrie.j1 k x7 (x11 != x7) x753000 x754000 x767000 x780000) else (laws_FnExactTimesTrie.j1 k x7 true x753000 x754000 x767000 x780000)))))) else (some false)))) else (some false))))
def laws_FnExactTimesTrie.j1 : Nat → Bool → Bool → List (S81) → List (S81) → List (S76) → List (S76) → Option (Bool)
  | 0, _, _, _, _, _, _ => none
  | k + 1, x7, x82, x753000, x754000, x767000, x780000 => if x82 = true then (some false) else ((laws_markTrie.f k x780000 1).bind fun bt794 => ((laws_heldTrie.f k bt794.2 1).bind fun t796 => (if t796 < 0 then (some false) else (if t796 = bt794.1 then ((laws_toTrie.f k x753000).bind fun t797 => ((laws_toTrie.f k x754000).bind fun t800 => ((impl_TimesTrie.f k t797 t800).bind fun bt803 => ((laws_eqTrie.f k bt803.1 x767000).bind fun t808 => (if t808 = true then (laws_FnExactTimesTrie.j2 k bt794.1 (bt803.2 != x7) bt794.2) else (laws_FnExactTimesTrie.j2 k bt794.1 true bt794.2)))))) else (some false)))))
def laws_FnExactTimesTrie.j2 : Nat → Int → Bool → List (S76) → Option (Bool)
  | 0, _, _, _ => none
  | k + 1, x13, x110, x780000 => if x110 = true then (some false) else ((laws_heldTrie.f k x780000 1).bind fun t809 => (if t809 < 0 then (some false) else (if t809 = x13 then (some true) else (some false))))
end
def laws_FnExactTimesTrie.f (k : Nat) (l0_0 : List (S81)) (l1_0 : List (S81)) : Option (Bool) := (laws_szTrie.f l0_0 1048576).bind fun t754 => (if t754 < 0 then (some true) else ((laws_szTrie.f l1_0 t754).bind fun t755 => (if t755 < 0 then (some true) else ((laws_toTrie.f k l0_0).bind fun t756 => ((laws_toTrie.f k l1_0).bind fun t759 => ((spec_TimesTrie.f k t756 t759).bind fun bt762 => ((laws_toTrie.f k l0_0).bind fun t767 => ((laws_toTrie.f k l1_0).bind fun t771 => ((impl_TimesTrie.f k t767 t771).bind fun bt775 => ((laws_eqTrie.f k bt775.1 bt762.1).bind fun t780 => (if t780 = true then (laws_FnExactTimesTrie.j0 k bt762.2 bt775.2 (bt775.2 != bt762.2) l0_0 l1_0 bt762.1 t767 t771 bt775.1) else (laws_FnExactTimesTrie.j0 k bt762.2 bt775.2 true l0_0 l1_0 bt762.1 t767 t771 bt775.1))))))))))))
def laws_FnExactTimesTrie.T8 : Bool × List (List Nat × List Nat) := (true, [([], []), ([0], [0]), ([], []), ([2, 1], [2]), ([1, 3, 3], [1, 3]), ([4], [4]), ([5], [5]), ([5], [5]), ([], []), ([8, 6, 4, 0, 1, 2, 3, 4, 5, 6, 8], [6, 8]), ([7, 9, 0, 1, 2, 3, 4, 5, 6, 7, 8, 9], [7])])
def laws_FnExactTimesTrie.B8 : List Nat := [0, 1, 0, 7, 15, 31, 63, 63, 0, 383, 1023]
theorem laws_FnExactTimesTrie.tab8 : rtab .any (opsOf Tryd.f9 8) = laws_FnExactTimesTrie.T8 := by kernel_rfl
theorem laws_FnExactTimesTrie.bits8 : waitsOk laws_FnExactTimesTrie.T8.2 laws_FnExactTimesTrie.B8 = true := by kernel_rfl
def laws_FnExactTimesTrie.T31 : Bool × List (List Nat × List Nat) := (true, [([], []), ([0], [0]), ([], []), ([2, 1], [2]), ([1, 3, 3], [1, 3]), ([4], [4]), ([5], [5]), ([5], [5]), ([], []), ([8, 6, 4, 0, 1, 2, 3, 4, 5, 6, 8], [6, 8]), ([7, 9, 0, 1, 2, 3, 4, 5, 6, 7, 8, 9], [7])])
def laws_FnExactTimesTrie.B31 : List Nat := [0, 1, 0, 7, 15, 31, 63, 63, 0, 383, 1023]
theorem laws_FnExactTimesTrie.tab31 : rtab .any (opsOf Tryd.f9 31) = laws_FnExactTimesTrie.T31 := by kernel_rfl
theorem laws_FnExactTimesTrie.bits31 : waitsOk laws_FnExactTimesTrie.T31.2 laws_FnExactTimesTrie.B31 = true := by kernel_rfl
set_option maxHeartbeats 8000000 in
set_option maxRecDepth 100000 in
theorem laws_FnExactTimesTrie.calls (k : Nat) (A0_0 : Option Addr) (c0_0 : Nat) (l0_0 : List (S81)) (A1_0 : Option Addr) (c1_0 : Nat) (l1_0 : List (S81)) (r : Bool) (w : World) (hr0_0 : Kd.C k81 w A0_0 l0_0.length l0_0) (hc0_0 : l0_0.length ≤ c0_0) (hr1_0 : Kd.C k81 w A1_0 l1_0.length l1_0) (hc1_0 : l1_0.length ≤ c1_0) (h : laws_FnExactTimesTrie.f k l0_0 l1_0 = some true) :
  Calls Tryd.prog 9 #[.agg #[.slice A0_0 l0_0.length c0_0], .agg #[.slice A1_0 l1_0.length c1_0]] w fun e w' => e = .returned (.bool true) ∧ Below w.heap.size w w' := by
 have hu36 := Tryd.underlying36
 have hu26 := Tryd.underlying26
 have HR0_0 := Aside0.mk hr0_0
 have HC0_0 := Aside0.mk hc0_0
 clear hr0_0 hc0_0
 have HR1_0 := Aside0.mk hr1_0
 have HC1_0 := Aside0.mk hc1_0
 clear hr1_0 hc1_0
 have HB := Aside0.mk (Below.refl w.heap.size w)
 have H : ((laws_szTrie.f l0_0 1048576).bind fun t754 => (if t754 < 0 then (some true) else ((laws_szTrie.f l1_0 t754).bind fun t755 => (if t755 < 0 then (some true) else ((laws_toTrie.f k l0_0).bind fun t756 => ((laws_toTrie.f k l1_0).bind fun t759 => ((spec_TimesTrie.f k t756 t759).bind fun bt762 => ((laws_toTrie.f k l0_0).bind fun t767 => ((laws_toTrie.f k l1_0).bind fun t771 => ((impl_TimesTrie.f k t767 t771).bind fun bt775 => ((laws_eqTrie.f k bt775.1 bt762.1).bind fun t780 => (if t780 = true then (laws_FnExactTimesTrie.j0 k bt762.2 bt775.2 (bt775.2 != bt762.2) l0_0 l1_0 bt762.1 t767 t771 bt775.1) else (laws_FnExactTimesTrie.j0 k bt762.2 bt775.2 true l0_0 l1_0 bt762.1 t767 t771 bt775.1))))))))))))) = some true := h
 clear h
 replace H := Option.bind_eq_some_iff.mp H
 obtain ⟨t754, A30, H⟩ := H
 replace H : (if t754 < 0 then (some true) else ((laws_szTrie.f l1_0 t754).bind fun t755 => (if t755 < 0 then (some true) else ((laws_toTrie.f k l0_0).bind fun t756 => ((laws_toTrie.f k l1_0).bind fun t759 => ((spec_TimesTrie.f k t756 t759).bind fun bt762 => ((laws_toTrie.f k l0_0).bind fun t767 => ((laws_toTrie.f k l1_0).bind fun t771 => ((impl_TimesTrie.f k t767 t771).bind fun bt775 => ((laws_eqTrie.f k bt775.1 bt762.1).bind fun t780 => (if t780 = true then (laws_FnExactTimesTrie.j0 k bt762.2 bt775.2 (bt775.2 != bt762.2) l0_0 l1_0 bt762.1 t767 t771 bt775.1) else (laws_FnExactTimesTrie.j0 k bt762.2 bt775.2 true l0_0 l1_0 bt762.1 t767 t771 bt775.1)))))))))))) = some true := H
 have A3 := Aside0.mk A30
 clear A30
 by_cases c4 : t754 < 0
 ·rw [if_pos c4] at H
  have c4b0 : decide (t754 < 0) = true := decide_eq_true c4
  clear c4
  (first | (obtain rfl := Option.some.inj H) | (have hH_ := Option.some.inj H; try simp only [hH_]))
  go_enter Tryd.func9, Tryd.ntmps9
  go_wp2_with (first | ((with_reducible refine gate_dst (N := 2) rfl ?_); refine box_event ?hg (N := 2) ?hd (cs := #[.slice A0_0 l0_0.length c0_0]) (t := 36) ?hr ?_; (case hd => rfl); (case hg => rfl); (case hr => first | (go_simp; done) | (go_simp; rfl)); intro gb752 hg w5 hbox hb; have n0_ := Aside0.mk (below_step (by repeat (first | (with_reducible first | exact HB.out | apply below_alloc | apply pw_below_drewN | apply below_drew1) | exact HB.out)) hb); have n1_ := Aside0.mk (hbox); have n2_ := Aside0.mk ((by rw [hg]; exact (below_size (by repeat (first | (with_reducible first | exact HB.out | apply below_alloc | apply pw_below_drewN | apply below_drew1) | exact HB.out))) : w.heap.size ≤ gb752)); have n3_ := Aside0.mk ((by rw [hg]; exact (below_size (by repeat (first | (with_reducible first | exact HB.out | apply below_alloc | apply pw_below_drewN | apply below_drew1) | exact HB.out))) : w.heap.size ≤ gb752)); clear HB; have HB := n0_; have BK752 := n1_; have GW752 := n2_; have GE752 := n3_; clear n0_ n1_ n2_ n3_; clear hb hbox hg) | ((with_reducible refine gate_dst (N := 3) rfl ?_); refine box_event ?hg (N := 3) ?hd (cs := #[.slice A1_0 l1_0.length c1_0]) (t := 36) ?hr ?_; (case hd => rfl); (case hg => rfl); (case hr => first | (go_simp; done) | (go_simp; rfl)); intro gb753 hg w6 hbox hb; have n0_ := Aside0.mk (blk_below (g := gb752) (o := .cells #[.slice A0_0 l0_0.length c0_0] 36 (0, 0)) (by (with_reducible repeat (first | refine blk_drewN ?_ _ | refine blk_drew ?_ | refine blk_alloc ?_ _)); exact BK752.out) hb); have n1_ := Aside0.mk (below_step (by repeat (first | (with_reducible first | exact HB.out | apply below_alloc | apply pw_below_drewN | apply below_drew1 | refine below_set ?_ GE752.out) | exact HB.out)) hb); have n2_ := Aside0.mk (hbox); have n3_ := Aside0.mk ((by rw [hg]; exact (below_size (by repeat (first | (with_reducible first | exact HB.out | apply below_alloc | apply pw_below_drewN | apply below_drew1 | refine below_set ?_ GE752.out) | exact HB.out))) : w.heap.size ≤ gb753)); have n4_ := Aside0.mk ((by rw [hg]; exact (below_size (by repeat (first | (with_reducible first | exact HB.out | apply below_alloc | apply pw_below_drewN | apply below_drew1 | refine below_set ?_ GE752.out) | exact HB.out))) : w.heap.size ≤ gb753)); have n5_ := Aside0.mk ((by rw [hg]; exact Nat.ne_of_lt (blk_lt (g := gb752) (o := .cells #[.slice A0_0 l0_0.length c0_0] 36 (0, 0)) (by (with_reducible repeat (first | refine blk_drewN ?_ _ | refine blk_drew ?_ | refine blk_alloc ?_ _)); exact BK752.out)) : gb752 ≠ gb753)); have n6_ := Aside0.mk ((by rw [hg]; exact Nat.ne_of_gt (blk_lt (g := gb752) (o := .cells #[.slice A0_0 l0_0.length c0_0] 36 (0, 0)) (by (with_reducible repeat (first | refine blk_drewN ?_ _ | refine blk_drew ?_ | refine blk_alloc ?_ _)); exact BK752.out)) : gb753 ≠ gb752)); clear BK752; clear HB; have BK752 := n0_; have HB := n1_; have BK753 := n2_; have GW753 := n3_; have GE753 := n4_; have NB752_753 := n5_; have NB753_752 := n6_; clear n0_ n1_ n2_ n3_ n4_ n5_ n6_; clear hb hbox hg; have hnb7 := NB752_753.out; have hnc7 := NB753_752.out; have hcz8_0 : w6.cell? ⟨gb752, 0, none⟩ = some (.slice A0_0 l0_0.length c0_0) := (blk_cell BK752.out 0).trans rfl; have hfz8_0 := blk_frozen BK752.out 0) | ((with_reducible refine gate_callee (f := 21) rfl ?_); refine goesL_ (some 19) rfl rfl Tryd.func21 (by kernel_rfl) rfl #[.agg #[.slice A0_0 l0_0.length c0_0], .int .i64 1048576] rfl (by (try simp only [List.map_toArray, List.map_cons, List.map_nil]); first | done | rfl | (simp only [List.length_drop, List.length_take]; rfl)) ?_; (with_reducible refine (laws_szTrie.calls _ _ l0_0 1048576 t754 _ ?side1 ?side2 A3.out).mono ?_); (case side1 => repeat (first | exact (Kd.C_below HR0_0.out HB.out) | (with_reducible refine Kd.C_alloc ?_ _) | (with_reducible refine Kd.C_drewN ?_ _) | (with_reducible refine Kd.C_drew ?_))); (case side2 => exact HC0_0.out); rintro e w9 ⟨rfl, hb⟩; refine ⟨_, rfl, ?_⟩; have n0_ := Aside0.mk (blk_below (g := gb752) (o := .cells #[.slice A0_0 l0_0.length c0_0] 36 (0, 0)) (by (with_reducible repeat (first | refine blk_drewN ?_ _ | refine blk_drew ?_ | refine blk_alloc ?_ _)); exact BK752.out) hb); have n1_ := Aside0.mk (blk_below (g := gb753) (o := .cells #[.slice A1_0 l1_0.length c1_0] 36 (0, 0)) (by (with_reducible repeat (first | refine blk_drewN ?_ _ | refine blk_drew ?_ | refine blk_alloc ?_ _)); exact BK753.out) hb); have n2_ := Aside0.mk (below_step (by repeat (first | (with_reducible first | exact HB.out | apply below_alloc | apply pw_below_drewN | apply below_drew1 | refine below_set ?_ GE752.out | refine below_set ?_ GE753.out) | exact HB.out)) hb); clear BK752; clear BK753; clear HB; have BK752 := n0_; have BK753 := n1_; have HB := n2_; clear n0_ n1_ n2_; (try clear hb); (try clear hb2); (try clear hk); (try clear hi)))
  go_ret
  exact ⟨by first | rfl | (simp [errW_none, errW_some] <;> rfl) | (simp [*, errW_none, errW_some] <;> rfl), by repeat (first | (with_reducible first | exact HB.out | apply below_alloc | apply pw_below_drewN | apply below_drew1 | refine below_set ?_ GE752.out | refine below_set ?_ GE753.out) | exact HB.out)⟩
 ·rw [if_neg c4] at H
  have c4b0 : decide (t754 < 0) = false := decide_eq_false c4
  clear c4
  replace H := Option.bind_eq_some_iff.mp H
  obtain ⟨t755, A100, H⟩ := H
  replace H : (if t755 < 0 then (some true) else ((laws_toTrie.f k l0_0).bind fun t756 => ((laws_toTrie.f k l1_0).bind fun t759 => ((spec_TimesTrie.f k t756 t759).bind fun bt762 => ((laws_toTrie.f k l0_0).bind fun t767 => ((laws_toTrie.f k l1_0).bind fun t771 => ((impl_TimesTrie.f k t767 t771).bind fun bt775 => ((laws_eqTrie.f k bt775.1 bt762.1).bind fun t780 => (if t780 = true then (laws_FnExactTimesTrie.j0 k bt762.2 bt775.2 (bt775.2 != bt762.2) l0_0 l1_0 bt762.1 t767 t771 bt775.1) else (laws_FnExactTimesTrie.j0 k bt762.2 bt775.2 true l0_0 l1_0 bt762.1 t767 t771 bt775.1)))))))))) = some true := H
  have A10 := Aside0.mk A100
  clear A100
  by_cases c11 : t755 < 0
  ·rw [if_pos c11] at H
   have c11b0 : decide (t755 < 0) = true := decide_eq_true c11
   clear c11
   (first | (obtain rfl := Option.some.inj H) | (have hH_ := Option.some.inj H; try simp only [hH_]))
   go_enter Tryd.func9, Tryd.ntmps9
   go_wp2_with (first | ((with_reducible refine gate_dst (N := 2) rfl ?_); refine box_event ?hg (N := 2) ?hd (cs := #[.slice A0_0 l0_0.length c0_0]) (t := 36) ?hr ?_; (case hd => rfl); (case hg => rfl); (case hr => first | (go_simp; done) | (go_simp; rfl)); intro gb752 hg w12 hbox hb; have n0_ := Aside0.mk (below_step (by repeat (first | (with_reducible first | exact HB.out | apply below_alloc | apply pw_below_drewN | apply below_drew1) | exact HB.out)) hb); have n1_ := Aside0.mk (hbox); have n2_ := Aside0.mk ((by rw [hg]; exact (below_size (by repeat (first | (with_reducible first | exact HB.out | apply below_alloc | apply pw_below_drewN | apply below_drew1) | exact HB.out))) : w.heap.size ≤ gb752)); have n3_ := Aside0.mk ((by rw [hg]; exact (below_size (by repeat (first | (with_reducible first | exact HB.out | apply below_alloc | apply pw_below_drewN | apply below_drew1) | exact HB.out))) : w.heap.size ≤ gb752)); clear HB; have HB := n0_; have BK752 := n1_; have GW752 := n2_; have GE752 := n3_; clear n0_ n1_ n2_ n3_; clear hb hbox hg) | ((with_reducible refine gate_dst (N := 3) rfl ?_); refine box_event ?hg (N := 3) ?hd (cs := #[.slice A1_0 l1_0.length c1_0]) (t := 36) ?hr ?_; (case hd => rfl); (case hg => rfl); (case hr => first | (go_simp; done) | (go_simp; rfl)); intro gb753 hg w13 hbox hb; have n0_ := Aside0.mk (blk_below (g := gb752) (o := .cells #[.slice A0_0 l0_0.length c0_0] 36 (0, 0)) (by (with_reducible repeat (first | refine blk_drewN ?_ _ | refine blk_drew ?_ | refine blk_alloc ?_ _)); exact BK752.out) hb); have n1_ := Aside0.mk (below_step (by repeat (first | (with_reducible first | exact HB.out | apply below_alloc | apply pw_below_drewN | apply below_drew1 | refine below_set ?_ GE752.out) | exact HB.out)) hb); have n2_ := Aside0.mk (hbox); have n3_ := Aside0.mk ((by rw [hg]; exact (below_size (by repeat (first | (with_reducible first | exact HB.out | apply below_alloc | apply pw_below_drewN | apply below_drew1 | refine below_set ?_ GE752.out) | exact HB.out))) : w.heap.size ≤ gb753)); have n4_ := Aside0.mk ((by rw [hg]; exact (below_size (by repeat (first | (with_reducible first | exact HB.out | apply below_alloc | apply pw_below_drewN | apply below_drew1 | refine below_set ?_ GE752.out) | exact HB.out))) : w.heap.size ≤ gb753)); have n5_ := Aside0.mk ((by rw [hg]; exact Nat.ne_of_lt (blk_lt (g := gb752) (o := .cells #[.slice A0_0 l0_0.length c0_0] 36 (0, 0)) (by (with_reducible repeat (first | refine blk_drewN ?_ _ | refine blk_drew ?_ | refine blk_alloc ?_ _)); exact BK752.out)) : gb752 ≠ gb753)); have n6_ := Aside0.mk ((by rw [hg]; exact Nat.ne_of_gt (blk_lt (g := gb752) (o := .cells #[.slice A0_0 l0_0.length c0_0] 36 (0, 0)) (by (with_reducible repeat (first | refine blk_drewN ?_ _ | refine blk_drew ?_ | refine blk_alloc ?_ _)); exact BK752.out)) : gb753 ≠ gb752)); clear BK752; clear HB; have BK752 := n0_; have HB := n1_; have BK753 := n2_; have GW753 := n3_; have GE753 := n4_; have NB752_753 := n5_; have NB753_752 := n6_; clear n0_ n1_ n2_ n3_ n4_ n5_ n6_; clear hb hbox hg; have hnb14 := NB752_753.out; have hnc14 := NB753_752.out; have hcz15_0 : w13.cell? ⟨gb752, 0, none⟩ = some (.slice A0_0 l0_0.length c0_0) := (blk_cell BK752.out 0).trans rfl; have hfz15_0 := blk_frozen BK752.out 0) | ((with_reducible refine gate_callee (f := 21) rfl ?_); refine goesL_ (some 19) rfl rfl Tryd.func21 (by kernel_rfl) rfl #[.agg #[.slice A0_0 l0_0.length c0_0], .int .i64 1048576] rfl (by (try simp only [List.map_toArray, List.map_cons, List.map_nil]); first | done | rfl | (simp only [List.length_drop, List.length_take]; rfl)) ?_; (with_reducible refine (laws_szTrie.calls _ _ l0_0 1048576 t754 _ ?side1 ?side2 A3.out).mono ?_); (case side1 => repeat (first | exact (Kd.C_below HR0_0.out HB.out) | (with_reducible refine Kd.C_alloc ?_ _) | (with_reducible refine Kd.C_drewN ?_ _) | (with_reducible refine Kd.C_drew ?_))); (case side2 => exact HC0_0.out); rintro e w16 ⟨rfl, hb⟩; refine ⟨_, rfl, ?_⟩; have n0_ := Aside0.mk (blk_below (g := gb752) (o := .cells #[.slice A0_0 l0_0.length c0_0] 36 (0, 0)) (by (with_reducible repeat (first | refine blk_drewN ?_ _ | refine blk_drew ?_ | refine blk_alloc ?_ _)); exact BK752.out) hb); have n1_ := Aside0.mk (blk_below (g := gb753) (o := .cells #[.slice A1_0 l1_0.length c1_0] 36 (0, 0)) (by (with_reducible repeat (first | refine blk_drewN ?_ _ | refine blk_drew ?_ | refine blk_alloc ?_ _)); exact BK753.out) hb); have n2_ := Aside0.mk (below_step (by repeat (first | (with_reducible first | exact HB.out | apply below_alloc | apply pw_below_drewN | apply below_drew1 | refine below_set ?_ GE752.out | refine below_set ?_ GE753.out) | exact HB.out)) hb); clear BK752; clear BK753; clear HB; have BK752 := n0_; have BK753 := n1_; have HB := n2_; clear n0_ n1_ n2_; (try clear hb); (try clear hb2); (try clear hk); (try clear hi); have hcz17_0 : w16.cell? ⟨gb753, 0, none⟩ = some (.slice A1_0 l1_0.length c1_0) := (blk_cell BK753.out 0).trans rfl; have hfz17_0 := blk_frozen BK753.out 0) | ((with_reducible refine gate_callee (f := 21) rfl ?_); refine goesL_ (some 24) rfl rfl Tryd.func21 (by kernel_rfl) rfl #[.agg #[.slice A1_0 l1_0.length c1_0], .int .i64 t754] rfl (by (try simp only [List.map_toArray, List.map_cons, List.map_nil]); first | done | rfl | (simp only [List.length_drop, List.length_take]; rfl)) ?_; (with_reducible refine (laws_szTrie.calls _ _ l1_0 t754 t755 _ ?side1 ?side2 A10.out).mono ?_); (case side1 => repeat (first | exact (Kd.C_below HR1_0.out HB.out) | (with_reducible refine Kd.C_alloc ?_ _) | (with_reducible refine Kd.C_drewN ?_ _) | (with_reducible refine Kd.C_drew ?_))); (case side2 => exact HC1_0.out); rintro e w18 ⟨rfl, hb⟩; refine ⟨_, rfl, ?_⟩; have n0_ := Aside0.mk (blk_below (g := gb752) (o := .cells #[.slice A0_0 l0_0.length c0_0] 36 (0, 0)) (by (with_reducible repeat (first | refine blk_drewN ?_ _ | refine blk_drew ?_ | refine blk_alloc ?_ _)); exact BK752.out) hb); have n1_ := Aside0.mk (blk_below (g := gb753) (o := .cells #[.slice A1_0 l1_0.length c1_0] 36 (0, 0)) (by (with_reducible repeat (first | refine blk_drewN ?_ _ | refine blk_drew ?_ | refine blk_alloc ?_ _)); exact BK753.out) hb); have n2_ := Aside0.mk (below_step (by repeat (first | (with_reducible first | exact HB.out | apply below_alloc | apply pw_below_drewN | apply below_drew1 | refine below_set ?_ GE752.out | refine below_set ?_ GE753.out) | exact HB.out)) hb); clear BK752; clear BK753; clear HB; have BK752 := n0_; have BK753 := n1_; have HB := n2_; clear n0_ n1_ n2_; (try clear hb); (try clear hb2); (try clear hk); (try clear hi)))
   go_ret
   exact ⟨by first | rfl | (simp [errW_none, errW_some] <;> rfl) | (simp [*, errW_none, errW_some] <;> rfl), by repeat (first | (with_reducible first | exact HB.out | apply below_alloc | apply pw_below_drewN | apply below_drew1 | refine below_set ?_ GE752.out | refine below_set ?_ GE753.out) | exact HB.out)⟩
  ·rw [if_neg c11] at H
   have c11b0 : decide (t755 < 0) = false := decide_eq_false c11
   clear c11
   replace H := Option.bind_eq_some_iff.mp H
   obtain ⟨t756, A190, H⟩ := H
   replace H : ((laws_toTrie.f k l1_0).bind fun t759 => ((spec_TimesTrie.f k t756 t759).bind fun bt762 => ((laws_toTrie.f k l0_0).bind fun t767 => ((laws_toTrie.f k l1_0).bind fun t771 => ((impl_TimesTrie.f k t767 t771).bind fun bt775 => ((laws_eqTrie.f k bt775.1 bt762.1).bind fun t780 => (if t780 = true then (laws_FnExactTimesTrie.j0 k bt762.2 bt775.2 (bt775.2 != bt762.2) l0_0 l1_0 bt762.1 t767 t771 bt775.1) else (laws_FnExactTimesTrie.j0 k bt762.2 bt775.2 true l0_0 l1_0 bt762.1 t767 t771 bt775.1)))))))) = some true := H
   have A19 := Aside0.mk A190
   clear A190
   replace H := Option.bind_eq_some_iff.mp H
   obtain ⟨t759, A200, H⟩ := H
   replace H : ((spec_TimesTrie.f k t756 t759).bind fun bt762 => ((laws_toTrie.f k l0_0).bind fun t767 => ((laws_toTrie.f k l1_0).bind fun t771 => ((impl_TimesTrie.f k t767 t771).bind fun bt775 => ((laws_eqTrie.f k bt775.1 bt762.1).bind fun t780 => (if t780 = true then (laws_FnExactTimesTrie.j0 k bt762.2 bt775.2 (bt775.2 != bt762.2) l0_0 l1_0 bt762.1 t767 t771 bt775.1) else (laws_FnExactTimesTrie.j0 k bt762.2 bt775.2 true l0_0 l1_0 bt762.1 t767 t771 bt775.1))))))) = some true := H
   have A20 := Aside0.mk A200
   clear A200
   replace H := Option.bind_eq_some_iff.mp H
   obtain ⟨⟨t762, t765⟩, A210, H⟩ := H
   replace H : ((laws_toTrie.f k l0_0).bind fun t767 => ((laws_toTrie.f k l1_0).bind fun t771 => ((impl_TimesTrie.f k t767 t771).bind fun bt775 => ((laws_eqTrie.f k bt775.1 t762).bind fun t780 => (if t780 = true then (laws_FnExactTimesTrie.j0 k t765 bt775.2 (bt775.2 != t765) l0_0 l1_0 t762 t767 t771 bt775.1) else (laws_FnExactTimesTrie.j0 k t765 bt775.2 true l0_0 l1_0 t762 t767 t771 bt775.1)))))) = some true := H
   have A21 := Aside0.mk A210
   clear A210
   replace H := Option.bind_eq_some_iff.mp H
   obtain ⟨t767, A220, H⟩ := H
   replace H : ((laws_toTrie.f k l1_0).bind fun t771 => ((impl_TimesTrie.f k t767 t771).bind fun bt775 => ((laws_eqTrie.f k bt775.1 t762).bind fun t780 => (if t780 = true then (laws_FnExactTimesTrie.j0 k t765 bt775.2 (bt775.2 != t765) l0_0 l1_0 t762 t767 t771 bt775.1) else (laws_FnExactTimesTrie.j0 k t765 bt775.2 true l0_0 l1_0 t762 t767 t771 bt775.1))))) = some true := H
   have A22 := Aside0.mk A220
   clear A220
   replace H := Option.bind_eq_some_iff.mp H
   obtain ⟨t771, A230, H⟩ := H
   replace H : ((impl_TimesTrie.f k t767 t771).bind fun bt775 => ((laws_eqTrie.f k bt775.1 t762).bind fun t780 => (if t780 = true then (laws_FnExactTimesTrie.j0 k t765 bt775.2 (bt775.2 != t765) l0_0 l1_0 t762 t767 t771 bt775.1) else (laws_FnExactTimesTrie.j0 k t765 bt775.2 true l0_0 l1_0 t762 t767 t771 bt775.1)))) = some true := H
   have A23 := Aside0.mk A230
   clear A230
   replace H := Option.bind_eq_some_iff.mp H
   obtain ⟨⟨t775, t778⟩, A240, H⟩ := H
   replace H : ((laws_eqTrie.f k t775 t762).bind fun t780 => (if t780 = true then (laws_FnExactTimesTrie.j0 k t765 t778 (t778 != t765) l0_0 l1_0 t762 t767 t771 t775) else (laws_FnExactTimesTrie.j0 k t765 t778 true l0_0 l1_0 t762 t767 t771 t775))) = some true := H
   have A24 := Aside0.mk A240
   clear A240
   have HC25 := Aside0.mk H
   clear H
   go_enter Tryd.func9, Tryd.ntmps9
   try go_wp2_with (first | ((with_reducible refine gate_dst (N := 2) rfl ?_); refine box_event ?hg (N := 2) ?hd (cs := #[.slice A0_0 l0_0.length c0_0]) (t := 36) ?hr ?_; (case hd => rfl); (case hg => rfl); (case hr => first | (go_simp; done) | (go_simp; rfl)); intro gb752 hg w26 hbox hb; have n0_ := Aside0.mk (below_step (by repeat (first | (with_reducible first | exact HB.out | apply below_alloc | apply pw_below_drewN | apply below_drew1) | exact HB.out)) hb); have n1_ := Aside0.mk (hbox); have n2_ := Aside0.mk ((by rw [hg]; exact (below_size (by repeat (first | (with_reducible first | exact HB.out | apply below_alloc | apply pw_below_drewN | apply below_drew1) | exact HB.out))) : w.heap.size ≤ gb752)); have n3_ := Aside0.mk ((by rw [hg]; exact (below_size (by repeat (first | (with_reducible first | exact HB.out | apply below_alloc | apply pw_below_drewN | apply below_drew1) | exact HB.out))) : w.heap.size ≤ gb752)); clear HB; have HB := n0_; have BK752 := n1_; have GW752 := n2_; have GE752 := n3_; clear n0_ n1_ n2_ n3_; clear hb hbox hg) | ((with_reducible refine gate_dst (N := 3) rfl ?_); refine box_event ?hg (N := 3) ?hd (cs := #[.slice A1_0 l1_0.length c1_0]) (t := 36) ?hr ?_; (case hd => rfl); (case hg => rfl); (case hr => first | (go_simp; done) | (go_simp; rfl)); intro gb753 hg w27 hbox hb; have n0_ := Aside0.mk (blk_below (g := gb752) (o := .cells #[.slice A0_0 l0_0.length c0_0] 36 (0, 0)) (by (with_reducible repeat (first | refine blk_drewN ?_ _ | refine blk_drew ?_ | refine blk_alloc ?_ _)); exact BK752.out) hb); have n1_ := Aside0.mk (below_step (by repeat (first | (with_reducible first | exact HB.out | apply below_alloc | apply pw_below_drewN | apply below_drew1 | refine below_set ?_ GE752.out) | exact HB.out)) hb); have n2_ := Aside0.mk (hbox); have n3_ := Aside0.mk ((by rw [hg]; exact (below_size (by repeat (first | (with_reducible first | exact HB.out | apply below_alloc | apply pw_below_drewN | apply below_drew1 | refine below_set ?_ GE752.out) | exact HB.out))) : w.heap.size ≤ gb753)); have n4_ := Aside0.mk ((by rw [hg]; exact (below_size (by repeat (first | (with_reducible first | exact HB.out | apply below_alloc | apply pw_below_drewN | apply below_drew1 | refine below_set ?_ GE752.out) | exact HB.out))) : w.heap.size ≤ gb753)); have n5_ := Aside0.mk ((by rw [hg]; exact Nat.ne_of_lt (blk_lt (g := gb752) (o := .cells #[.slice A0_0 l0_0.length c0_0] 36 (0, 0)) (by (with_reducible repeat (first | refine blk_drewN ?_ _ | refine blk_drew ?_ | refine blk_alloc ?_ _)); exact BK752.out)) : gb752 ≠ gb753)); have n6_ := Aside0.mk ((by rw [hg]; exact Nat.ne_of_gt (blk_lt (g := gb752) (o := .cells #[.slice A0_0 l0_0.length c0_0] 36 (0, 0)) (by (with_reducible repeat (first | refine blk_drewN ?_ _ | refine blk_drew ?_ | refine blk_alloc ?_ _)); exact BK752.out)) : gb753 ≠ gb752)); clear BK752; clear HB; have BK752 := n0_; have HB := n1_; have BK753 := n2_; have GW753 := n3_; have GE753 := n4_; have NB752_753 := n5_; have NB753_752 := n6_; clear n0_ n1_ n2_ n3_ n4_ n5_ n6_; clear hb hbox hg; have hnb28 := NB752_753.out; have hnc28 := NB753_752.out; have hcz29_0 : w27.cell? ⟨gb752, 0, none⟩ = some (.slice A0_0 l0_0.length c0_0) := (blk_cell BK752.out 0).trans rfl; have hfz29_0 := blk_frozen BK752.out 0) | ((with_reducible refine gate_callee (f := 21) rfl ?_); refine goesL_ (some 19) rfl rfl Tryd.func21 (by kernel_rfl) rfl #[.agg #[.slice A0_0 l0_0.length c0_0], .int .i64 1048576] rfl (by (try simp only [List.map_toArray, List.map_cons, List.map_nil]); first | done | rfl | (simp only [List.length_drop, List.length_take]; rfl)) ?_; (with_reducible refine (laws_szTrie.calls _ _ l0_0 1048576 t754 _ ?side1 ?side2 A3.out).mono ?_); (case side1 => repeat (first | exact (Kd.C_below HR0_0.out HB.out) | (with_reducible refine Kd.C_alloc ?_ _) | (with_reducible refine Kd.C_drewN ?_ _) | (with_reducible refine Kd.C_drew ?_))); (case side2 => exact HC0_0.out); rintro e w30 ⟨rfl, hb⟩; refine ⟨_, rfl, ?_⟩; have n0_ := Aside0.mk (blk_below (g := gb752) (o := .cells #[.slice A0_0 l0_0.length c0_0] 36 (0, 0)) (by (with_reducible repeat (first | refine blk_drewN ?_ _ | refine blk_drew ?_ | refine blk_alloc ?_ _)); exact BK752.out) hb); have n1_ := Aside0.mk (blk_below (g := gb753) (o := .cells #[.slice A1_0 l1_0.length c1_0] 36 (0, 0)) (by (with_reducible repeat (first | refine blk_drewN ?_ _ | refine blk_drew ?_ | refine blk_alloc ?_ _)); exact BK753.out) hb); have n2_ := Aside0.mk (below_step (by repeat (first | (with_reducible first | exact HB.out | apply below_alloc | apply pw_below_drewN | apply below_drew1 | refine below_set ?_ GE752.out | refine below_set ?_ GE753.out) | exact HB.out)) hb); clear BK752; clear BK753; clear HB; have BK752 := n0_; have BK753 := n1_; have HB := n2_; clear n0_ n1_ n2_; (try clear hb); (try clear hb2); (try clear hk); (try clear hi); have hcz31_0 : w30.cell? ⟨gb753, 0, none⟩ = some (.slice A1_0 l1_0.length c1_0) := (blk_cell BK753.out 0).trans rfl; have hfz31_0 := blk_frozen BK753.out 0) | ((with_reducible refine gate_callee (f := 21) rfl ?_); refine goesL_ (some 24) rfl rfl Tryd.func21 (by kernel_rfl) rfl #[.agg #[.slice A1_0 l1_0.length c1_0], .int .i64 t754] rfl (by (try simp only [List.map_toArray, List.map_cons, List.map_nil]); first | done | rfl | (simp only [List.length_drop, List.length_take]; rfl)) ?_; (with_reducible refine (laws_szTrie.calls _ _ l1_0 t754 t755 _ ?side1 ?side2 A10.out).mono ?_); (case side1 => repeat (first | exact (Kd.C_below HR1_0.out HB.out) | (with_reducible refine Kd.C_alloc ?_ _) | (with_reducible refine Kd.C_drewN ?_ _) | (with_reducible refine Kd.C_drew ?_))); (case side2 => exact HC1_0.out); rintro e w32 ⟨rfl, hb⟩; refine ⟨_, rfl, ?_⟩; have n0_ := Aside0.mk (blk_below (g := gb752) (o := .cells #[.slice A0_0 l0_0.length c0_0] 36 (0, 0)) (by (with_reducible repeat (first | refine blk_drewN ?_ _ | refine blk_drew ?_ | refine blk_alloc ?_ _)); exact BK752.out) hb); have n1_ := Aside0.mk (blk_below (g := gb753) (o := .cells #[.slice A1_0 l1_0.length c1_0] 36 (0, 0)) (by (with_reducible repeat (first | refine blk_drewN ?_ _ | refine blk_drew ?_ | refine blk_alloc ?_ _)); exact BK753.out) hb); have n2_ := Aside0.mk (below_step (by repeat (first | (with_reducible first | exact HB.out | apply below_alloc | apply pw_below_drewN | apply below_drew1 | refine below_set ?_ GE752.out | refine below_set ?_ GE753.out) | exact HB.out)) hb); clear BK752; clear BK753; clear HB; have BK752 := n0_; have BK753 := n1_; have HB := n2_; clear n0_ n1_ n2_; (try clear hb); (try clear hb2); (try clear hk); (try clear hi)))
   have n0_ := Aside0.mk (blk_drew BK752.out)
   have n1_ := Aside0.mk (blk_drew BK753.out)
   have n2_ := Aside0.mk (below_drew1 HB.out)
   revert n0_ n1_ n2_
   clear BK752 BK753 HB
   intro BK752 BK753 HB
   refine start_ (n := 11) (S := fun w' => w'.cell? ⟨gb752, 0, none⟩ = some (.slice A0_0 l0_0.length c0_0) ∧ w'.cell? ⟨gb753, 0, none⟩ = some (.slice A1_0 l1_0.length c1_0)) (ds := []) #[false, false, false, false, false, false, false, false, false, false, false] (by kernel_rfl) rfl rfl ⟨(blk_cell BK752.out 0).trans rfl, (blk_cell BK753.out 0).trans rfl⟩ (fun hHeld => ?_); refine with_tabW laws_FnExactTimesTrie.tab8 laws_FnExactTimesTrie.bits8 (fun HT_ HW_ => ?_)
   generalize w32.drew = w33 at BK752 BK753 HB hHeld ⊢
   refine take_ (i := 0) (N := some 28) (v := ?_) (a' := ?_) #[true, false, false, false, false, false, false, false, false, false, false] rfl rfl (take_ofW HT_.out HW_.out (by kernel_rfl)) (fun _ _ _ h => h) (Or.inl ⟨by rfl, ?_⟩) hHeld ?_ ?_
   rotate_left
   ·rintro w' ⟨s0, s1⟩
    go_simp
    with_reducible rfl
   rotate_left
   ·simp only [Act.put, List.setIfInBounds_toArray, List.set_cons_zero, List.set_cons_succ, i64_w, i32_w]
    rfl
   refine take_ (i := 2) (N := some 30) (v := ?_) (a' := ?_) #[true, false, true, false, false, false, false, false, false, false, false] rfl rfl (take_ofW HT_.out HW_.out (by kernel_rfl)) (fun _ _ _ h => h) (Or.inl ⟨by rfl, ?_⟩) hHeld ?_ ?_
   rotate_left
   ·rintro w' ⟨s0, s1⟩
    go_simp
    with_reducible rfl
   rotate_left
   ·simp only [Act.put, List.setIfInBounds_toArray, List.set_cons_zero, List.set_cons_succ, i64_w, i32_w]
    rfl
   refine join_ (σ := Value × Value × Value × Nat) 2 #[true, true, true, true, true, true, true, true, true, false, false] (fun s_ => [(29, .agg #[s_.1]), (31, .agg #[s_.2.1]), (32, .tuple #[.agg #[s_.2.2.1], .bool t765]), (6, .pointer (some ⟨s_.2.2.2, 0, none⟩)), (27, .tuple #[.agg #[s_.2.2.1], .bool t765]), (33, .agg #[s_.2.2.1]), (34, .bool t765)]) (fun s_ w' => (w'.cell? ⟨gb752, 0, none⟩ = some (.slice A0_0 l0_0.length c0_0) ∧ w'.cell? ⟨gb753, 0, none⟩ = some (.slice A1_0 l1_0.length c1_0)) ∧ (Kd.R k76 76 w' w.heap.size (fun k_ => some k_ ≠ (s_.2.1 : Value).ownBlock ∧ some k_ ≠ (s_.2.2.1 : Value).ownBlock) s_.1 t756) ∧ (Kd.R k76 76 w' w.heap.size (fun k_ => some k_ ≠ (s_.1 : Value).ownBlock ∧ some k_ ≠ (s_.2.2.1 : Value).ownBlock) s_.2.1 t759) ∧ (Kd.R k76 76 w' w.heap.size (fun k_ => some k_ ≠ (s_.1 : Value).ownBlock ∧ some k_ ≠ (s_.2.1 : Value).ownBlock) s_.2.2.1 t762) ∧ (w'.heap[gb752]? = some (.cells #[.slice A0_0 l0_0.length c0_0] 36 (0, 0))) ∧ (w'.heap[gb753]? = some (.cells #[.slice A1_0 l1_0.length c1_0] 36 (0, 0))) ∧ (w'.heap[s_.2.2.2]? = some (.cells #[.slice none 0 0] 26 (0, 0))) ∧ (w.heap.size ≤ s_.2.2.2) ∧ (w.heap.size ≤ s_.2.2.2) ∧ (gb752 ≠ s_.2.2.2) ∧ (s_.2.2.2 ≠ gb752) ∧ (gb753 ≠ s_.2.2.2) ∧ (s_.2.2.2 ≠ gb753) ∧ (Below w.heap.size w w')) ?_ ?_
   rotate_left
   ·intro hCont
    refine two_ (i := 1) (j := 8) (Ni := some 29) (Nj := some 6) #[true, true, true, false, false, false, false, false, false, false, false] #[true, false, true, false, false, false, false, false, true, false, false] rfl rfl rfl rfl (two_of HT_.out (by kernel_rfl)) (by decide) (by decide) (fun K hK => ?_) (fun K hK => ?_)
    ·skip
     refine goes_ Tryd.func23 (by kernel_rfl) rfl #[.agg #[.slice A0_0 l0_0.length c0_0]] (by rfl) rfl rfl (by (try simp only [List.map_toArray, List.map_cons, List.map_nil]); first | done | rfl | (simp only [List.length_drop, List.length_take]; rfl)) ?_
     with_reducible refine (laws_toTrie.calls k _ _ l0_0 t756 _ ?side1 ?side2 A19.out).mono ?_
     (case side1 => exact (Kd.C_below HR0_0.out HB.out))
     (case side2 => exact HC0_0.out)
     rintro e w34 ⟨v757, rfl, ho0, hb⟩
     refine ⟨_, rfl, ?_⟩
     have n0_ := Aside0.mk (Kd.R_lower ho0 (below_size HB.out))
     have n1_ := Aside0.mk (blk_below BK752.out hb)
     have n2_ := Aside0.mk (blk_below BK753.out hb)
     have n3_ := Aside0.mk (below_step HB.out hb)
     revert n0_ n1_ n2_ n3_
     clear BK752 BK753 HB
     intro HO758 BK752 BK753 HB
     (try clear hb)
     (try clear hb2)
     (try clear hk)
     (try clear hi)
     (try clear ho0)
     refine hK.out _ _ ⟨(blk_cell BK752.out 0).trans rfl, (blk_cell BK753.out 0).trans rfl⟩ (fun hHeld => ?_)
     clear hK K
     refine norm_ (a' := ?_) ?_ ?_
     rotate_left
     ·show Act.put _ (some 29) _ = _
      simp only [Act.put, List.setIfInBounds_toArray, List.set_cons_zero, List.set_cons_succ, i64_w, i32_w]
      rfl
     refine two_ (i := 3) (j := 8) (Ni := some 31) (Nj := some 6) #[true, true, true, true, false, false, false, false, false, false, false] #[true, true, true, false, false, false, false, false, true, false, false] rfl rfl rfl rfl (two_of HT_.out (by kernel_rfl)) (by decide) (by decide) (fun K hK => ?_) (fun K hK => ?_)
     ·skip
      refine goes_ Tryd.func23 (by kernel_rfl) rfl #[.agg #[.slice A1_0 l1_0.length c1_0]] (by rfl) rfl rfl (by (try simp only [List.map_toArray, List.map_cons, List.map_nil]); first | done | rfl | (simp only [List.length_drop, List.length_take]; rfl)) ?_
      with_reducible refine (laws_toTrie.calls k _ _ l1_0 t759 _ ?side1 ?side2 A20.out).mono ?_
      (case side1 => exact (Kd.C_below HR1_0.out HB.out))
      (case side2 => exact HC1_0.out)
      rintro e w35 ⟨v760, rfl, ho0, hb⟩
      refine ⟨_, rfl, ?_⟩
      have n0_ := Aside0.mk (Kd.R_elder' HO758.out (Kd.R_base ho0) hb)
      have n1_ := Aside0.mk (Kd.R_lower (Kd.R_new' ho0 (Kd.R_lt HO758.out)) (below_size HB.out))
      have n2_ := Aside0.mk (blk_below BK752.out hb)
      have n3_ := Aside0.mk (blk_below BK753.out hb)
      have n4_ := Aside0.mk (below_step HB.out hb)
      revert n0_ n1_ n2_ n3_ n4_
      clear HO758 BK752 BK753 HB
      intro HO758 HO761 BK752 BK753 HB
      (try clear hb)
      (try clear hb2)
      (try clear hk)
      (try clear hi)
      (try clear ho0)
      obtain ⟨Ao36, co36, eo36⟩ := Kd.R_slice HO758.out
      (first | subst eo36 | (injection eo36 with f1_ f2_ f3_; have f4_ := f1_.symm; have f5_ := f3_.symm; clear f1_ f2_ f3_; subst f4_; subst f5_))
      obtain ⟨Ao37, co37, eo37⟩ := Kd.R_slice HO761.out
      (first | subst eo37 | (injection eo37 with f1_ f2_ f3_; have f4_ := f1_.symm; have f5_ := f3_.symm; clear f1_ f2_ f3_; subst f4_; subst f5_))
      refine hK.out _ _ ⟨(blk_cell BK752.out 0).trans rfl, (blk_cell BK753.out 0).trans rfl⟩ (fun hHeld => ?_)
      clear hK K
      refine norm_ (a' := ?_) ?_ ?_
      rotate_left
      ·show Act.put _ (some 31) _ = _
       simp only [Act.put, List.setIfInBounds_toArray, List.set_cons_zero, List.set_cons_succ, i64_w, i32_w]
       rfl
      refine two_ (i := 4) (j := 8) (Ni := some 32) (Nj := some 6) #[true, true, true, true, true, false, false, false, false, false, false] #[true, true, true, true, false, false, false, false, true, false, false] rfl rfl rfl rfl (two_of HT_.out (by kernel_rfl)) (by decide) (by decide) (fun K hK => ?_) (fun K hK => ?_)
      ·skip
       refine goes_ Tryd.func33 (by kernel_rfl) rfl #[.agg #[.slice Ao36 t756.length co36], .agg #[.slice Ao37 t759.length co37]] (by rfl) rfl rfl (by (try simp only [List.map_toArray, List.map_cons, List.map_nil]); first | done | rfl | (simp only [List.length_drop, List.length_take]; rfl)) ?_
       with_reducible refine (spec_TimesTrie.calls k _ _ t756 _ _ t759 t762 t765 _ ?side1 ?side2 ?side3 ?side4 A21.out).mono ?_
       (case side1 => exact (Kd.R_reads' HO758.out).2.2)
       (case side2 => exact (Kd.R_reads' HO758.out).2.1)
       (case side3 => exact (Kd.R_reads' HO761.out).2.2)
       (case side4 => exact (Kd.R_reads' HO761.out).2.1)
       rintro e w38 ⟨v763, rfl, ho0, hb⟩
       refine ⟨_, rfl, ?_⟩
       have n0_ := Aside0.mk (Kd.R_elder' HO758.out (Kd.R_base ho0) hb)
       have n1_ := Aside0.mk (Kd.R_elder' HO761.out (Kd.R_base ho0) hb)
       have n2_ := Aside0.mk (Kd.R_lower (Kd.R_new' (Kd.R_new' ho0 (Kd.R_lt HO758.out)) (Kd.R_lt HO761.out)) (below_size HB.out))
       have n3_ := Aside0.mk (blk_below BK752.out hb)
       have n4_ := Aside0.mk (blk_below BK753.out hb)
       have n5_ := Aside0.mk (below_step HB.out hb)
       revert n0_ n1_ n2_ n3_ n4_ n5_
       clear HO758 HO761 BK752 BK753 HB
       intro HO758 HO761 HO764 BK752 BK753 HB
       (try clear hb)
       (try clear hb2)
       (try clear hk)
       (try clear hi)
       (try clear ho0)
       refine hK.out _ _ ⟨(blk_cell BK752.out 0).trans rfl, (blk_cell BK753.out 0).trans rfl⟩ (fun hHeld => ?_)
       clear hK K
       refine norm_ (a' := ?_) ?_ ?_
       rotate_left
       ·show Act.put _ (some 32) _ = _
        simp only [Act.put, List.setIfInBounds_toArray, List.set_cons_zero, List.set_cons_succ, i64_w, i32_w]
        rfl
       refine pure_ (i := 5) (N := some 27) (v := ?_) (a' := ?_) #[true, true, true, true, true, true, false, false, false, false, false] rfl rfl (any_of HT_.out (by kernel_rfl)) (fun _ _ _ h => h) (Or.inl ⟨by rfl, ?_⟩) ?_ ?_
       rotate_left
       ·intro w'
        go_simp
        with_reducible rfl
       rotate_left
       ·simp only [Act.put, List.setIfInBounds_toArray, List.set_cons_zero, List.set_cons_succ, i64_w, i32_w]
        rfl
       refine pure_ (i := 6) (N := some 33) (v := ?_) (a' := ?_) #[true, true, true, true, true, true, true, false, false, false, false] rfl rfl (any_of HT_.out (by kernel_rfl)) (fun _ _ _ h => h) (Or.inl ⟨by rfl, ?_⟩) ?_ ?_
       rotate_left
       ·intro w'
        go_simp
        with_reducible rfl
       rotate_left
       ·simp only [Act.put, List.setIfInBounds_toArray, List.set_cons_zero, List.set_cons_succ, i64_w, i32_w]
        rfl
       refine pure_ (i := 7) (N := some 34) (v := ?_) (a' := ?_) #[true, true, true, true, true, true, true, true, false, false, false] rfl rfl (any_of HT_.out (by kernel_rfl)) (fun _ _ _ h => h) (Or.inl ⟨by rfl, ?_⟩) ?_ ?_
       rotate_left
       ·intro w'
        go_simp
        with_reducible rfl
       rotate_left
       ·simp only [Act.put, List.setIfInBounds_toArray, List.set_cons_zero, List.set_cons_succ, i64_w, i32_w]
        rfl
       refine one_ (i := 8) (N := some 6) #[true, true, true, true, true, true, true, true, true, false, false] rfl rfl (one_of HT_.out (by kernel_rfl)) (by decide) (fun K hK => ?_)
       refine box_step ?hg (N := 6) ?hd (cs := #[.slice none 0 0]) (t := 26) ?hr ?_; (case hd => rfl); (case hg => rfl); (case hr => first | (go_simp; done) | (go_simp; rfl))
       intro gb766 hg w39 hbox hb
       have n0_ := Aside0.mk (Kd.R_below HO758.out hb)
       have n1_ := Aside0.mk (Kd.R_below HO761.out hb)
       have n2_ := Aside0.mk (Kd.R_below HO764.out hb)
       have n3_ := Aside0.mk (blk_below BK752.out hb)
       have n4_ := Aside0.mk (blk_below BK753.out hb)
       have n5_ := Aside0.mk (below_step HB.out hb)
       have n6_ := Aside0.mk (hbox)
       have n7_ := Aside0.mk ((by rw [hg]; exact (below_size HB.out) : w.heap.size ≤ gb766))
       have n8_ := Aside0.mk ((by rw [hg]; exact (below_size HB.out) : w.heap.size ≤ gb766))
       have n9_ := Aside0.mk ((by rw [hg]; exact Nat.ne_of_lt (blk_lt BK752.out) : gb752 ≠ gb766))
       have n10_ := Aside0.mk ((by rw [hg]; exact Nat.ne_of_gt (blk_lt BK752.out) : gb766 ≠ gb752))
       have n11_ := Aside0.mk ((by rw [hg]; exact Nat.ne_of_lt (blk_lt BK753.out) : gb753 ≠ gb766))
       have n12_ := Aside0.mk ((by rw [hg]; exact Nat.ne_of_gt (blk_lt BK753.out) : gb766 ≠ gb753))
       revert n0_ n1_ n2_ n3_ n4_ n5_ n6_ n7_ n8_ n9_ n10_ n11_ n12_
       clear HO758 HO761 HO764 BK752 BK753 HB
       intro HO758 HO761 HO764 BK752 BK753 HB BK766 GW766 GE766 NB752_766 NB766_752 NB753_766 NB766_753
       clear hb hbox hg
       refine hK.out _ _ ⟨(blk_cell BK752.out 0).trans rfl, (blk_cell BK753.out 0).trans rfl⟩ (fun hHeld => ?_)
       clear hK K
       refine norm_ (a' := ?_) ?_ ?_
       rotate_left
       ·show Act.put _ (some 6) _ = _
        simp only [Act.put, List.setIfInBounds_toArray, List.set_cons_zero, List.set_cons_succ, i64_w, i32_w]
        rfl
       exact norm_ (by simp only [putAll, Act.put, List.setIfInBounds_toArray, List.set_cons_zero, List.set_cons_succ]) (hCont (.slice Ao36 t756.length co36, .slice Ao37 t759.length co37, v763, gb766) _ ⟨hHeld, (Kd.R_mono HO758.out (fun _ hk => ⟨hk.1.2, hk.2⟩)), (Kd.R_mono HO761.out (fun _ hk => ⟨hk.1.2, hk.2⟩)), (Kd.R_mono HO764.out (fun _ hk => ⟨hk.1.2, hk.2⟩)), BK752.out, BK753.out, BK766.out, GW766.out, GE766.out, NB752_766.out, NB766_752.out, NB753_766.out, NB766_753.out, HB.out⟩)
      ·skip
       refine box_step ?hg (N := 6) ?hd (cs := #[.slice none 0 0]) (t := 26) ?hr ?_; (case hd => rfl); (case hg => rfl); (case hr => first | (go_simp; done) | (go_simp; rfl))
       intro gb766 hg w36 hbox hb
       have n0_ := Aside0.mk (Kd.R_below HO758.out hb)
       have n1_ := Aside0.mk (Kd.R_below HO761.out hb)
       have n2_ := Aside0.mk (blk_below BK752.out hb)
       have n3_ := Aside0.mk (blk_below BK753.out hb)
       have n4_ := Aside0.mk (below_step HB.out hb)
       have n5_ := Aside0.mk (hbox)
       have n6_ := Aside0.mk ((by rw [hg]; exact (below_size HB.out) : w.heap.size ≤ gb766))
       have n7_ := Aside0.mk ((by rw [hg]; exact (below_size HB.out) : w.heap.size ≤ gb766))
       have n8_ := Aside0.mk ((by rw [hg]; exact Nat.ne_of_lt (blk_lt BK752.out) : gb752 ≠ gb766))
       have n9_ := Aside0.mk ((by rw [hg]; exact Nat.ne_of_gt (blk_lt BK752.out) : gb766 ≠ gb752))
       have n10_ := Aside0.mk ((by rw [hg]; exact Nat.ne_of_lt (blk_lt BK753.out) : gb753 ≠ gb766))
       have n11_ := Aside0.mk ((by rw [hg]; exact Nat.ne_of_gt (blk_lt BK753.out) : gb766 ≠ gb753))
       revert n0_ n1_ n2_ n3_ n4_ n5_ n6_ n7_ n8_ n9_ n10_ n11_
       clear HO758 HO761 BK752 BK753 HB
       intro HO758 HO761 BK752 BK753 HB BK766 GW766 GE766 NB752_766 NB766_752 NB753_766 NB766_753
       clear hb hbox hg
       obtain ⟨Ao37, co37, eo37⟩ := Kd.R_slice HO758.out
       (first | subst eo37 | (injection eo37 with f1_ f2_ f3_; have f4_ := f1_.symm; have f5_ := f3_.symm; clear f1_ f2_ f3_; subst f4_; subst f5_))
       obtain ⟨Ao38, co38, eo38⟩ := Kd.R_slice HO761.out
       (first | subst eo38 | (injection eo38 with f1_ f2_ f3_; have f4_ := f1_.symm; have f5_ := f3_.symm; clear f1_ f2_ f3_; subst f4_; subst f5_))
       refine hK.out _ _ ⟨(blk_cell BK752.out 0).trans rfl, (blk_cell BK753.out 0).trans rfl⟩ (fun hHeld => ?_)
       clear hK K
       refine norm_ (a' := ?_) ?_ ?_
       rotate_left
       ·show Act.put _ (some 6) _ = _
        simp only [Act.put, List.setIfInBounds_toArray, List.set_cons_zero, List.set_cons_succ, i64_w, i32_w]
        rfl
       refine one_ (i := 4) (N := some 32) #[true, true, true, true, true, false, false, false, true, false, false] rfl rfl (one_of HT_.out (by kernel_rfl)) (by decide) (fun K hK => ?_)
       refine goes_ Tryd.func33 (by kernel_rfl) rfl #[.agg #[.slice Ao37 t756.length co37], .agg #[.slice Ao38 t759.length co38]] (by rfl) rfl rfl (by (try simp only [List.map_toArray, List.map_cons, List.map_nil]); first | done | rfl | (simp only [List.length_drop, List.length_take]; rfl)) ?_
       with_reducible refine (spec_TimesTrie.calls k _ _ t756 _ _ t759 t762 t765 _ ?side1 ?side2 ?side3 ?side4 A21.out).mono ?_
       (case side1 => exact (Kd.R_reads' HO758.out).2.2)
       (case side2 => exact (Kd.R_reads' HO758.out).2.1)
       (case side3 => exact (Kd.R_reads' HO761.out).2.2)
       (case side4 => exact (Kd.R_reads' HO761.out).2.1)
       rintro e w39 ⟨v763, rfl, ho0, hb⟩
       refine ⟨_, rfl, ?_⟩
       have n0_ := Aside0.mk (Kd.R_elder' HO758.out (Kd.R_base ho0) hb)
       have n1_ := Aside0.mk (Kd.R_elder' HO761.out (Kd.R_base ho0) hb)
       have n2_ := Aside0.mk (Kd.R_lower (Kd.R_new' (Kd.R_new' ho0 (Kd.R_lt HO758.out)) (Kd.R_lt HO761.out)) (below_size HB.out))
       have n3_ := Aside0.mk (blk_below BK752.out hb)
       have n4_ := Aside0.mk (blk_below BK753.out hb)
       have n5_ := Aside0.mk (blk_below BK766.out hb)
       have n6_ := Aside0.mk (below_step HB.out hb)
       revert n0_ n1_ n2_ n3_ n4_ n5_ n6_
       clear HO758 HO761 BK752 BK753 BK766 HB
       intro HO758 HO761 HO764 BK752 BK753 BK766 HB
       (try clear hb)
       (try clear hb2)
       (try clear hk)
       (try clear hi)
       (try clear ho0)
       refine hK.out _ _ ⟨(blk_cell BK752.out 0).trans rfl, (blk_cell BK753.out 0).trans rfl⟩ (fun hHeld => ?_)
       clear hK K
       refine norm_ (a' := ?_) ?_ ?_
       rotate_left
       ·show Act.put _ (some 32) _ = _
        simp only [Act.put, List.setIfInBounds_toArray, List.set_cons_zero, List.set_cons_succ, i64_w, i32_w]
        rfl
       refine pure_ (i := 5) (N := some 27) (v := ?_) (a' := ?_) #[true, true, true, true, true, true, false, false, true, false, false] rfl rfl (any_of HT_.out (by kernel_rfl)) (fun _ _ _ h => h) (Or.inl ⟨by rfl, ?_⟩) ?_ ?_
       rotate_left
       ·intro w'
        go_simp
        with_reducible rfl
       rotate_left
       ·simp only [Act.put, List.setIfInBounds_toArray, List.set_cons_zero, List.set_cons_succ, i64_w, i32_w]
        rfl
       refine pure_ (i := 6) (N := some 33) (v := ?_) (a' := ?_) #[true, true, true, true, true, true, true, false, true, false, false] rfl rfl (any_of HT_.out (by kernel_rfl)) (fun _ _ _ h => h) (Or.inl ⟨by rfl, ?_⟩) ?_ ?_
       rotate_left
       ·intro w'
        go_simp
        with_reducible rfl
       rotate_left
       ·simp only [Act.put, List.setIfInBounds_toArray, List.set_cons_zero, List.set_cons_succ, i64_w, i32_w]
        rfl
       refine pure_ (i := 7) (N := some 34) (v := ?_) (a' := ?_) #[true, true, true, true, true, true, true, true, true, false, false] rfl rfl (any_of HT_.out (by kernel_rfl)) (fun _ _ _ h => h) (Or.inl ⟨by rfl, ?_⟩) ?_ ?_
       rotate_left
       ·intro w'
        go_simp
        with_reducible rfl
       rotate_left
       ·simp only [Act.put, List.setIfInBounds_toArray, List.set_cons_zero, List.set_cons_succ, i64_w, i32_w]
        rfl
       exact norm_ (by simp only [putAll, Act.put, List.setIfInBounds_toArray, List.set_cons_zero, List.set_cons_succ]) (hCont (.slice Ao37 t756.length co37, .slice Ao38 t759.length co38, v763, gb766) _ ⟨hHeld, (Kd.R_mono HO758.out (fun _ hk => ⟨hk.1.2, hk.2⟩)), (Kd.R_mono HO761.out (fun _ hk => ⟨hk.1.2, hk.2⟩)), (Kd.R_mono HO764.out (fun _ hk => ⟨hk.1.2, hk.2⟩)), BK752.out, BK753.out, BK766.out, GW766.out, GE766.out, NB752_766.out, NB766_752.out, NB753_766.out, NB766_753.out, HB.out⟩)
     ·skip
      refine box_step ?hg (N := 6) ?hd (cs := #[.slice none 0 0]) (t := 26) ?hr ?_; (case hd => rfl); (case hg => rfl); (case hr => first | (go_simp; done) | (go_simp; rfl))
      intro gb766 hg w35 hbox hb
      have n0_ := Aside0.mk (Kd.R_below HO758.out hb)
      have n1_ := Aside0.mk (blk_below BK752.out hb)
      have n2_ := Aside0.mk (blk_below BK753.out hb)
      have n3_ := Aside0.mk (below_step HB.out hb)
      have n4_ := Aside0.mk (hbox)
      have n5_ := Aside0.mk ((by rw [hg]; exact (below_size HB.out) : w.heap.size ≤ gb766))
      have n6_ := Aside0.mk ((by rw [hg]; exact (below_size HB.out) : w.heap.size ≤ gb766))
      have n7_ := Aside0.mk ((by rw [hg]; exact Nat.ne_of_lt (blk_lt BK752.out) : gb752 ≠ gb766))
      have n8_ := Aside0.mk ((by rw [hg]; exact Nat.ne_of_gt (blk_lt BK752.out) : gb766 ≠ gb752))
      have n9_ := Aside0.mk ((by rw [hg]; exact Nat.ne_of_lt (blk_lt BK753.out) : gb753 ≠ gb766))
      have n10_ := Aside0.mk ((by rw [hg]; exact Nat.ne_of_gt (blk_lt BK753.out) : gb766 ≠ gb753))
      revert n0_ n1_ n2_ n3_ n4_ n5_ n6_ n7_ n8_ n9_ n10_
      clear HO758 BK752 BK753 HB
      intro HO758 BK752 BK753 HB BK766 GW766 GE766 NB752_766 NB766_752 NB753_766 NB766_753
      clear hb hbox hg
      refine hK.out _ _ ⟨(blk_cell BK752.out 0).trans rfl, (blk_cell BK753.out 0).trans rfl⟩ (fun hHeld => ?_)
      clear hK K
      refine norm_ (a' := ?_) ?_ ?_
      rotate_left
      ·show Act.put _ (some 6) _ = _
       simp only [Act.put, List.setIfInBounds_toArray, List.set_cons_zero, List.set_cons_succ, i64_w, i32_w]
       rfl
      refine one_ (i := 3) (N := some 31) #[true, true, true, true, false, false, false, false, true, false, false] rfl rfl (one_of HT_.out (by kernel_rfl)) (by decide) (fun K hK => ?_)
      refine goes_ Tryd.func23 (by kernel_rfl) rfl #[.agg #[.slice A1_0 l1_0.length c1_0]] (by rfl) rfl rfl (by (try simp only [List.map_toArray, List.map_cons, List.map_nil]); first | done | rfl | (simp only [List.length_drop, List.length_take]; rfl)) ?_
      with_reducible refine (laws_toTrie.calls k _ _ l1_0 t759 _ ?side1 ?side2 A20.out).mono ?_
      (case side1 => exact (Kd.C_below HR1_0.out HB.out))
      (case side2 => exact HC1_0.out)
      rintro e w36 ⟨v760, rfl, ho0, hb⟩
      refine ⟨_, rfl, ?_⟩
      have n0_ := Aside0.mk (Kd.R_elder' HO758.out (Kd.R_base ho0) hb)
      have n1_ := Aside0.mk (Kd.R_lower (Kd.R_new' ho0 (Kd.R_lt HO758.out)) (below_size HB.out))
      have n2_ := Aside0.mk (blk_below BK752.out hb)
      have n3_ := Aside0.mk (blk_below BK753.out hb)
      have n4_ := Aside0.mk (blk_below BK766.out hb)
      have n5_ := Aside0.mk (below_step HB.out hb)
      revert n0_ n1_ n2_ n3_ n4_ n5_
      clear HO758 BK752 BK753 BK766 HB
      intro HO758 HO761 BK752 BK753 BK766 HB
      (try clear hb)
      (try clear hb2)
      (try clear hk)
      (try clear hi)
      (try clear ho0)
      obtain ⟨Ao37, co37, eo37⟩ := Kd.R_slice HO758.out
      (first | subst eo37 | (injection eo37 with f1_ f2_ f3_; have f4_ := f1_.symm; have f5_ := f3_.symm; clear f1_ f2_ f3_; subst f4_; subst f5_))
      obtain ⟨Ao38, co38, eo38⟩ := Kd.R_slice HO761.out
      (first | subst eo38 | (injection eo38 with f1_ f2_ f3_; have f4_ := f1_.symm; have f5_ := f3_.symm; clear f1_ f2_ f3_; subst f4_; subst f5_))
      refine hK.out _ _ ⟨(blk_cell BK752.out 0).trans rfl, (blk_cell BK753.out 0).trans rfl⟩ (fun hHeld => ?_)
      clear hK K
      refine norm_ (a' := ?_) ?_ ?_
      rotate_left
      ·show Act.put _ (some 31) _ = _
       simp only [Act.put, List.setIfInBounds_toArray, List.set_cons_zero, List.set_cons_succ, i64_w, i32_w]
       rfl
      refine one_ (i := 4) (N := some 32) #[true, true, true, true, true, false, false, false, true, false, false] rfl rfl (one_of HT_.out (by kernel_rfl)) (by decide) (fun K hK => ?_)
      refine goes_ Tryd.func33 (by kernel_rfl) rfl #[.agg #[.slice Ao37 t756.length co37], .agg #[.slice Ao38 t759.length co38]] (by rfl) rfl rfl (by (try simp only [List.map_toArray, List.map_cons, List.map_nil]); first | done | rfl | (simp only [List.length_drop, List.length_take]; rfl)) ?_
      with_reducible refine (spec_TimesTrie.calls k _ _ t756 _ _ t759 t762 t765 _ ?side1 ?side2 ?side3 ?side4 A21.out).mono ?_
      (case side1 => exact (Kd.R_reads' HO758.out).2.2)
      (case side2 => exact (Kd.R_reads' HO758.out).2.1)
      (case side3 => exact (Kd.R_reads' HO761.out).2.2)
      (case side4 => exact (Kd.R_reads' HO761.out).2.1)
      rintro e w39 ⟨v763, rfl, ho0, hb⟩
      refine ⟨_, rfl, ?_⟩
      have n0_ := Aside0.mk (Kd.R_elder' HO758.out (Kd.R_base ho0) hb)
      have n1_ := Aside0.mk (Kd.R_elder' HO761.out (Kd.R_base ho0) hb)
      have n2_ := Aside0.mk (Kd.R_lower (Kd.R_new' (Kd.R_new' ho0 (Kd.R_lt HO758.out)) (Kd.R_lt HO761.out)) (below_size HB.out))
      have n3_ := Aside0.mk (blk_below BK752.out hb)
      have n4_ := Aside0.mk (blk_below BK753.out hb)
      have n5_ := Aside0.mk (blk_below BK766.out hb)
      have n6_ := Aside0.mk (below_step HB.out hb)
      revert n0_ n1_ n2_ n3_ n4_ n5_ n6_
      clear HO758 HO761 BK752 BK753 BK766 HB
      intro HO758 HO761 HO764 BK752 BK753 BK766 HB
      (try clear hb)
      (try clear hb2)
      (try clear hk)
      (try clear hi)
      (try clear ho0)
      refine hK.out _ _ ⟨(blk_cell BK752.out 0).trans rfl, (blk_cell BK753.out 0).trans rfl⟩ (fun hHeld => ?_)
      clear hK K
      refine norm_ (a' := ?_) ?_ ?_
      rotate_left
      ·show Act.put _ (some 32) _ = _
       simp only [Act.put, List.setIfInBounds_toArray, List.set_cons_zero, List.set_cons_succ, i64_w, i32_w]
       rfl
      refine pure_ (i := 5) (N := some 27) (v := ?_) (a' := ?_) #[true, true, true, true, true, true, false, false, true, false, false] rfl rfl (any_of HT_.out (by kernel_rfl)) (fun _ _ _ h => h) (Or.inl ⟨by rfl, ?_⟩) ?_ ?_
      rotate_left
      ·intro w'
       go_simp
       with_reducible rfl
      rotate_left
      ·simp only [Act.put, List.setIfInBounds_toArray, List.set_cons_zero, List.set_cons_succ, i64_w, i32_w]
       rfl
      refine pure_ (i := 6) (N := some 33) (v := ?_) (a' := ?_) #[true, true, true, true, true, true, true, false, true, false, false] rfl rfl (any_of HT_.out (by kernel_rfl)) (fun _ _ _ h => h) (Or.inl ⟨by rfl, ?_⟩) ?_ ?_
      rotate_left
      ·intro w'
       go_simp
       with_reducible rfl
      rotate_left
      ·simp only [Act.put, List.setIfInBounds_toArray, List.set_cons_zero, List.set_cons_succ, i64_w, i32_w]
       rfl
      refine pure_ (i := 7) (N := some 34) (v := ?_) (a' := ?_) #[true, true, true, true, true, true, true, true, true, false, false] rfl rfl (any_of HT_.out (by kernel_rfl)) (fun _ _ _ h => h) (Or.inl ⟨by rfl, ?_⟩) ?_ ?_
      rotate_left
      ·intro w'
       go_simp
       with_reducible rfl
      rotate_left
      ·simp only [Act.put, List.setIfInBounds_toArray, List.set_cons_zero, List.set_cons_succ, i64_w, i32_w]
       rfl
      exact norm_ (by simp only [putAll, Act.put, List.setIfInBounds_toArray, List.set_cons_zero, List.set_cons_succ]) (hCont (.slice Ao37 t756.length co37, .slice Ao38 t759.length co38, v763, gb766) _ ⟨hHeld, (Kd.R_mono HO758.out (fun _ hk => ⟨hk.1.2, hk.2⟩)), (Kd.R_mono HO761.out (fun _ hk => ⟨hk.1.2, hk.2⟩)), (Kd.R_mono HO764.out (fun _ hk => ⟨hk.1.2, hk.2⟩)), BK752.out, BK753.out, BK766.out, GW766.out, GE766.out, NB752_766.out, NB766_752.out, NB753_766.out, NB766_753.out, HB.out⟩)
    ·skip
     refine box_step ?hg (N := 6) ?hd (cs := #[.slice none 0 0]) (t := 26) ?hr ?_; (case hd => rfl); (case hg => rfl); (case hr => first | (go_simp; done) | (go_simp; rfl))
     intro gb766 hg w34 hbox hb
     have n0_ := Aside0.mk (blk_below BK752.out hb)
     have n1_ := Aside0.mk (blk_below BK753.out hb)
     have n2_ := Aside0.mk (below_step HB.out hb)
     have n3_ := Aside0.mk (hbox)
     have n4_ := Aside0.mk ((by rw [hg]; exact (below_size HB.out) : w.heap.size ≤ gb766))
     have n5_ := Aside0.mk ((by rw [hg]; exact (below_size HB.out) : w.heap.size ≤ gb766))
     have n6_ := Aside0.mk ((by rw [hg]; exact Nat.ne_of_lt (blk_lt BK752.out) : gb752 ≠ gb766))
     have n7_ := Aside0.mk ((by rw [hg]; exact Nat.ne_of_gt (blk_lt BK752.out) : gb766 ≠ gb752))
     have n8_ := Aside0.mk ((by rw [hg]; exact Nat.ne_of_lt (blk_lt BK753.out) : gb753 ≠ gb766))
     have n9_ := Aside0.mk ((by rw [hg]; exact Nat.ne_of_gt (blk_lt BK753.out) : gb766 ≠ gb753))
     revert n0_ n1_ n2_ n3_ n4_ n5_ n6_ n7_ n8_ n9_
     clear BK752 BK753 HB
     intro BK752 BK753 HB BK766 GW766 GE766 NB752_766 NB766_752 NB753_766 NB766_753
     clear hb hbox hg
     refine hK.out _ _ ⟨(blk_cell BK752.out 0).trans rfl, (blk_cell BK753.out 0).trans rfl⟩ (fun hHeld => ?_)
     clear hK K
     refine norm_ (a' := ?_) ?_ ?_
     rotate_left
     ·show Act.put _ (some 6) _ = _
      simp only [Act.put, List.setIfInBounds_toArray, List.set_cons_zero, List.set_cons_succ, i64_w, i32_w]
      rfl
     refine one_ (i := 1) (N := some 29) #[true, true, true, false, false, false, false, false, true, false, false] rfl rfl (one_of HT_.out (by kernel_rfl)) (by decide) (fun K hK => ?_)
     refine goes_ Tryd.func23 (by kernel_rfl) rfl #[.agg #[.slice A0_0 l0_0.length c0_0]] (by rfl) rfl rfl (by (try simp only [List.map_toArray, List.map_cons, List.map_nil]); first | done | rfl | (simp only [List.length_drop, List.length_take]; rfl)) ?_
     with_reducible refine (laws_toTrie.calls k _ _ l0_0 t756 _ ?side1 ?side2 A19.out).mono ?_
     (case side1 => exact (Kd.C_below HR0_0.out HB.out))
     (case side2 => exact HC0_0.out)
     rintro e w35 ⟨v757, rfl, ho0, hb⟩
     refine ⟨_, rfl, ?_⟩
     have n0_ := Aside0.mk (Kd.R_lower ho0 (below_size HB.out))
     have n1_ := Aside0.mk (blk_below BK752.out hb)
     have n2_ := Aside0.mk (blk_below BK753.out hb)
     have n3_ := Aside0.mk (blk_below BK766.out hb)
     have n4_ := Aside0.mk (below_step HB.out hb)
     revert n0_ n1_ n2_ n3_ n4_
     clear BK752 BK753 BK766 HB
     intro HO758 BK752 BK753 BK766 HB
     (try clear hb)
     (try clear hb2)
     (try clear hk)
     (try clear hi)
     (try clear ho0)
     refine hK.out _ _ ⟨(blk_cell BK752.out 0).trans rfl, (blk_cell BK753.out 0).trans rfl⟩ (fun hHeld => ?_)
     clear hK K
     refine norm_ (a' := ?_) ?_ ?_
     rotate_left
     ·show Act.put _ (some 29) _ = _
      simp only [Act.put, List.setIfInBounds_toArray, List.set_cons_zero, List.set_cons_succ, i64_w, i32_w]
      rfl
     refine one_ (i := 3) (N := some 31) #[true, true, true, true, false, false, false, false, true, false, false] rfl rfl (one_of HT_.out (by kernel_rfl)) (by decide) (fun K hK => ?_)
     refine goes_ Tryd.func23 (by kernel_rfl) rfl #[.agg #[.slice A1_0 l1_0.length c1_0]] (by rfl) rfl rfl (by (try simp only [List.map_toArray, List.map_cons, List.map_nil]); first | done | rfl | (simp only [List.length_drop, List.length_take]; rfl)) ?_
     with_reducible refine (laws_toTrie.calls k _ _ l1_0 t759 _ ?side1 ?side2 A20.out).mono ?_
     (case side1 => exact (Kd.C_below HR1_0.out HB.out))
     (case side2 => exact HC1_0.out)
     rintro e w36 ⟨v760, rfl, ho0, hb⟩
     refine ⟨_, rfl, ?_⟩
     have n0_ := Aside0.mk (Kd.R_elder' HO758.out (Kd.R_base ho0) hb)
     have n1_ := Aside0.mk (Kd.R_lower (Kd.R_new' ho0 (Kd.R_lt HO758.out)) (below_size HB.out))
     have n2_ := Aside0.mk (blk_below BK752.out hb)
     have n3_ := Aside0.mk (blk_below BK753.out hb)
     have n4_ := Aside0.mk (blk_below BK766.out hb)
     have n5_ := Aside0.mk (below_step HB.out hb)
     revert n0_ n1_ n2_ n3_ n4_ n5_
     clear HO758 BK752 BK753 BK766 HB
     intro HO758 HO761 BK752 BK753 BK766 HB
     (try clear hb)
     (try clear hb2)
     (try clear hk)
     (try clear hi)
     (try clear ho0)
     obtain ⟨Ao37, co37, eo37⟩ := Kd.R_slice HO758.out
     (first | subst eo37 | (injection eo37 with f1_ f2_ f3_; have f4_ := f1_.symm; have f5_ := f3_.symm; clear f1_ f2_ f3_; subst f4_; subst f5_))
     obtain ⟨Ao38, co38, eo38⟩ := Kd.R_slice HO761.out
     (first | subst eo38 | (injection eo38 with f1_ f2_ f3_; have f4_ := f1_.symm; have f5_ := f3_.symm; clear f1_ f2_ f3_; subst f4_; subst f5_))
     refine hK.out _ _ ⟨(blk_cell BK752.out 0).trans rfl, (blk_cell BK753.out 0).trans rfl⟩ (fun hHeld => ?_)
     clear hK K
     refine norm_ (a' := ?_) ?_ ?_
     rotate_left
     ·show Act.put _ (some 31) _ = _
      simp only [Act.put, List.setIfInBounds_toArray, List.set_cons_zero, List.set_cons_succ, i64_w, i32_w]
      rfl
     refine one_ (i := 4) (N := some 32) #[true, true, true, true, true, false, false, false, true, false, false] rfl rfl (one_of HT_.out (by kernel_rfl)) (by decide) (fun K hK => ?_)
     refine goes_ Tryd.func33 (by kernel_rfl) rfl #[.agg #[.slice Ao37 t756.length co37], .agg #[.slice Ao38 t759.length co38]] (by rfl) rfl rfl (by (try simp only [List.map_toArray, List.map_cons, List.map_nil]); first | done | rfl | (simp only [List.length_drop, List.length_take]; rfl)) ?_
     with_reducible refine (spec_TimesTrie.calls k _ _ t756 _ _ t759 t762 t765 _ ?side1 ?side2 ?side3 ?side4 A21.out).mono ?_
     (case side1 => exact (Kd.R_reads' HO758.out).2.2)
     (case side2 => exact (Kd.R_reads' HO758.out).2.1)
     (case side3 => exact (Kd.R_reads' HO761.out).2.2)
     (case side4 => exact (Kd.R_reads' HO761.out).2.1)
     rintro e w39 ⟨v763, rfl, ho0, hb⟩
     refine ⟨_, rfl, ?_⟩
     have n0_ := Aside0.mk (Kd.R_elder' HO758.out (Kd.R_base ho0) hb)
     have n1_ := Aside0.mk (Kd.R_elder' HO761.out (Kd.R_base ho0) hb)
     have n2_ := Aside0.mk (Kd.R_lower (Kd.R_new' (Kd.R_new' ho0 (Kd.R_lt HO758.out)) (Kd.R_lt HO761.out)) (below_size HB.out))
     have n3_ := Aside0.mk (blk_below BK752.out hb)
     have n4_ := Aside0.mk (blk_below BK753.out hb)
     have n5_ := Aside0.mk (blk_below BK766.out hb)
     have n6_ := Aside0.mk (below_step HB.out hb)
     revert n0_ n1_ n2_ n3_ n4_ n5_ n6_
     clear HO758 HO761 BK752 BK753 BK766 HB
     intro HO758 HO761 HO764 BK752 BK753 BK766 HB
     (try clear hb)
     (try clear hb2)
     (try clear hk)
     (try clear hi)
     (try clear ho0)
     refine hK.out _ _ ⟨(blk_cell BK752.out 0).trans rfl, (blk_cell BK753.out 0).trans rfl⟩ (fun hHeld => ?_)
     clear hK K
     refine norm_ (a' := ?_) ?_ ?_
     rotate_left
     ·show Act.put _ (some 32) _ = _
      simp only [Act.put, List.setIfInBounds_toArray, List.set_cons_zero, List.set_cons_succ, i64_w, i32_w]
      rfl
     refine pure_ (i := 5) (N := some 27) (v := ?_) (a' := ?_) #[true, true, true, true, true, true, false, false, true, false, false] rfl rfl (any_of HT_.out (by kernel_rfl)) (fun _ _ _ h => h) (Or.inl ⟨by rfl, ?_⟩) ?_ ?_
     rotate_left
     ·intro w'
      go_simp
      with_reducible rfl
     rotate_left
     ·simp only [Act.put, List.setIfInBounds_toArray, List.set_cons_zero, List.set_cons_succ, i64_w, i32_w]
      rfl
     refine pure_ (i := 6) (N := some 33) (v := ?_) (a' := ?_) #[true, true, true, true, true, true, true, false, true, false, false] rfl rfl (any_of HT_.out (by kernel_rfl)) (fun _ _ _ h => h) (Or.inl ⟨by rfl, ?_⟩) ?_ ?_
     rotate_left
     ·intro w'
      go_simp
      with_reducible rfl
     rotate_left
     ·simp only [Act.put, List.setIfInBounds_toArray, List.set_cons_zero, List.set_cons_succ, i64_w, i32_w]
      rfl
     refine pure_ (i := 7) (N := some 34) (v := ?_) (a' := ?_) #[true, true, true, true, true, true, true, true, true, false, false] rfl rfl (any_of HT_.out (by kernel_rfl)) (fun _ _ _ h => h) (Or.inl ⟨by rfl, ?_⟩) ?_ ?_
     rotate_left
     ·intro w'
      go_simp
      with_reducible rfl
     rotate_left
     ·simp only [Act.put, List.setIfInBounds_toArray, List.set_cons_zero, List.set_cons_succ, i64_w, i32_w]
      rfl
     exact norm_ (by simp only [putAll, Act.put, List.setIfInBounds_toArray, List.set_cons_zero, List.set_cons_succ]) (hCont (.slice Ao37 t756.length co37, .slice Ao38 t759.length co38, v763, gb766) _ ⟨hHeld, (Kd.R_mono HO758.out (fun _ hk => ⟨hk.1.2, hk.2⟩)), (Kd.R_mono HO761.out (fun _ hk => ⟨hk.1.2, hk.2⟩)), (Kd.R_mono HO764.out (fun _ hk => ⟨hk.1.2, hk.2⟩)), BK752.out, BK753.out, BK766.out, GW766.out, GE766.out, NB752_766.out, NB766_752.out, NB753_766.out, NB766_753.out, HB.out⟩)
   rintro ⟨v757, v760, v763, gb766⟩ w40 ⟨hS_, h0_, h1_, h2_, h3_, h4_, h5_, h6_, h7_, h8_, h9_, h10_, h11_, h12_⟩
   have n0_ : Aside0 (Kd.R k76 76 w40 w.heap.size (fun k_ => some k_ ≠ (v760 : Value).ownBlock ∧ some k_ ≠ (v763 : Value).ownBlock) v757 t756) := ⟨h0_⟩
   have n1_ : Aside0 (Kd.R k76 76 w40 w.heap.size (fun k_ => some k_ ≠ (v757 : Value).ownBlock ∧ some k_ ≠ (v763 : Value).ownBlock) v760 t759) := ⟨h1_⟩
   have n2_ : Aside0 (Kd.R k76 76 w40 w.heap.size (fun k_ => some k_ ≠ (v757 : Value).ownBlock ∧ some k_ ≠ (v760 : Value).ownBlock) v763 t762) := ⟨h2_⟩
   have n3_ : Aside0 (w40.heap[gb752]? = some (.cells #[.slice A0_0 l0_0.length c0_0] 36 (0, 0))) := ⟨h3_⟩
   have n4_ : Aside0 (w40.heap[gb753]? = some (.cells #[.slice A1_0 l1_0.length c1_0] 36 (0, 0))) := ⟨h4_⟩
   have n5_ : Aside0 (w40.heap[gb766]? = some (.cells #[.slice none 0 0] 26 (0, 0))) := ⟨h5_⟩
   have n6_ : Aside0 (w.heap.size ≤ gb766) := ⟨h6_⟩
   have n7_ : Aside0 (w.heap.size ≤ gb766) := ⟨h7_⟩
   have n8_ : Aside0 (gb752 ≠ gb766) := ⟨h8_⟩
   have n9_ : Aside0 (gb766 ≠ gb752) := ⟨h9_⟩
   have n10_ : Aside0 (gb753 ≠ gb766) := ⟨h10_⟩
   have n11_ : Aside0 (gb766 ≠ gb753) := ⟨h11_⟩
   have n12_ : Aside0 (Below w.heap.size w w40) := ⟨h12_⟩
   clear BK752
   clear BK753
   clear HB
   clear h0_ h1_ h2_ h3_ h4_ h5_ h6_ h7_ h8_ h9_ h10_ h11_ h12_
   have HO758 := n0_
   have HO761 := n1_
   have HO764 := n2_
   have BK752 := n3_
   have BK753 := n4_
   have BK766 := n5_
   have GW766 := n6_
   have GE766 := n7_
   have NB752_766 := n8_
   have NB766_752 := n9_
   have NB753_766 := n10_
   have NB766_753 := n11_
   have HB := n12_
   clear n0_ n1_ n2_ n3_ n4_ n5_ n6_ n7_ n8_ n9_ n10_ n11_ n12_
   have hHeld : w40.cell? ⟨gb752, 0, none⟩ = some (.slice A0_0 l0_0.length c0_0) ∧ w40.cell? ⟨gb753, 0, none⟩ = some (.slice A1_0 l1_0.length c1_0) := hS_
   obtain ⟨Ao41, co41, eo41⟩ := Kd.R_slice HO764.out
   (first | subst eo41 | (injection eo41 with f1_ f2_ f3_; have f4_ := f1_.symm; have f5_ := f3_.symm; clear f1_ f2_ f3_; subst f4_; subst f5_))
   refine norm_ (a' := ?_) ?_ ?_
   rotate_left
   ·simp only [putAll, Act.put, List.setIfInBounds_toArray, List.set_cons_zero, List.set_cons_succ]
    rfl
   refine one_ (i := 9) (N := none) #[true, true, true, true, true, true, true, true, true, true, false] rfl rfl (one_of HT_.out (by kernel_rfl)) (by decide) (fun K hK => ?_)
   have hs42 : w40.cell? ⟨gb766, 0, none⟩ = some (.slice none 0 0) := (blk_cell BK766.out 0).trans rfl
   have hfs42 := blk_frozen BK766.out 0
   have hns42_0 := NB752_766.out
   have hns42_1 := NB753_766.out
   have hms42_0 := NB766_752.out
   have hms42_1 := NB766_753.out
   refine skip_ (w1 := ?_) (by rfl) rfl ?_ ?_
   rotate_left
   ·go_simp
    rfl
   refine hK.out _ _ ⟨((cell_far (p := ⟨gb766, _, none⟩) NB752_766.out _).trans (hHeld.1)), ((cell_far (p := ⟨gb766, _, none⟩) NB753_766.out _).trans (hHeld.2))⟩ (fun hHeld => ?_)
   clear hK K
   refine pure_ (i := 10) (N := some 7) (v := ?_) (a' := ?_) #[true, true, true, true, true, true, true, true, true, true, true] rfl rfl (any_of HT_.out (by kernel_rfl)) (fun _ _ _ h => h) (Or.inl ⟨by rfl, ?_⟩) ?_ ?_
   rotate_left
   ·intro w'
    go_simp
    with_reducible rfl
   rotate_left
   ·simp only [Act.put, List.setIfInBounds_toArray, List.set_cons_zero, List.set_cons_succ, i64_w, i32_w]
    rfl
   refine done_ (done_of HT_.out (by kernel_rfl)) ?_
   have hnb43 := NB752_766.out
   have hnc43 := NB766_752.out
   have hcz44_0 : w40.cell? ⟨gb752, 0, none⟩ = some (.slice A0_0 l0_0.length c0_0) := (blk_cell BK752.out 0).trans rfl
   have hfz44_0 := blk_frozen BK752.out 0
   go_upto_region 12 with (first | ((with_reducible refine gate_callee (f := 23) rfl ?_); refine goesL_ (some 36) rfl rfl Tryd.func23 (by kernel_rfl) rfl #[.agg #[.slice A0_0 l0_0.length c0_0]] rfl (by (try simp only [List.map_toArray, List.map_cons, List.map_nil]); first | done | rfl | (simp only [List.length_drop, List.length_take]; rfl)) ?_; (with_reducible refine (laws_toTrie.calls k _ _ l0_0 t767 _ ?side1 ?side2 A22.out).mono ?_); (case side1 => exact Kd.C_below HR0_0.out (by repeat (first | (with_reducible first | exact HB.out | apply below_alloc | apply pw_below_drewN | apply below_drew1 | refine below_set ?_ GE752.out | refine below_set ?_ GE753.out | refine below_set ?_ GE766.out) | exact HB.out))); (case side2 => exact HC0_0.out); rintro e w45 ⟨v768, rfl, ho0, hb⟩; refine ⟨_, rfl, ?_⟩; have n0_ := Aside0.mk (Kd.R_elder' (by (with_reducible repeat (first | apply Kd.R_alloc | apply Kd.R_drewN | apply Kd.R_drew)); exact (Kd.R_mono (R_same_ (Kd.R_far (p := ⟨gb766, 0, none⟩) (Kd.R_types HO758.out BK766.out (by decide)) (fun _ hk => hk.2) (.slice Ao41 t762.length co41)) rfl) (fun _ h_ => h_.1))) (Kd.R_base ho0) hb); have n1_ := Aside0.mk (Kd.R_elder' (by (with_reducible repeat (first | apply Kd.R_alloc | apply Kd.R_drewN | apply Kd.R_drew)); exact (Kd.R_mono (R_same_ (Kd.R_far (p := ⟨gb766, 0, none⟩) (Kd.R_types HO761.out BK766.out (by decide)) (fun _ hk => hk.2) (.slice Ao41 t762.length co41)) rfl) (fun _ h_ => h_.1))) (Kd.R_base ho0) hb); have n2_ := Aside0.mk (Kd.R_elder' (by (with_reducible repeat (first | apply Kd.R_alloc | apply Kd.R_drewN | apply Kd.R_drew)); exact (Kd.R_mono (R_same_ (Kd.R_far (p := ⟨gb766, 0, none⟩) (Kd.R_types HO764.out BK766.out (by decide)) (fun _ hk => hk.2) (.slice Ao41 t762.length co41)) rfl) (fun _ h_ => h_.1))) (Kd.R_base ho0) hb); have n3_ := Aside0.mk (Kd.R_lower (Kd.R_new' (Kd.R_new' (Kd.R_new' ho0 (Kd.R_lt (by (with_reducible repeat (first | apply Kd.R_alloc | apply Kd.R_drewN | apply Kd.R_drew)); exact (Kd.R_mono (R_same_ (Kd.R_far (p := ⟨gb766, 0, none⟩) (Kd.R_types HO758.out BK766.out (by decide)) (fun _ hk => hk.2) (.slice Ao41 t762.length co41)) rfl) (fun _ h_ => h_.1))))) (Kd.R_lt (by (with_reducible repeat (first | apply Kd.R_alloc | apply Kd.R_drewN | apply Kd.R_drew)); exact (Kd.R_mono (R_same_ (Kd.R_far (p := ⟨gb766, 0, none⟩) (Kd.R_types HO761.out BK766.out (by decide)) (fun _ hk => hk.2) (.slice Ao41 t762.length co41)) rfl) (fun _ h_ => h_.1))))) (Kd.R_lt (by (with_reducible repeat (first | apply Kd.R_alloc | apply Kd.R_drewN | apply Kd.R_drew)); exact (Kd.R_mono (R_same_ (Kd.R_far (p := ⟨gb766, 0, none⟩) (Kd.R_types HO764.out BK766.out (by decide)) (fun _ hk => hk.2) (.slice Ao41 t762.length co41)) rfl) (fun _ h_ => h_.1))))) (below_size (by repeat (first | (with_reducible first | exact HB.out | apply below_alloc | apply pw_below_drewN | apply below_drew1 | refine below_set ?_ GE752.out | refine below_set ?_ GE753.out | refine below_set ?_ GE766.out) | exact HB.out)))); have n4_ := Aside0.mk (blk_below (g := gb752) (o := .cells #[.slice A0_0 l0_0.length c0_0] 36 (0, 0)) (by (with_reducible repeat (first | refine blk_drewN ?_ _ | refine blk_drew ?_ | refine blk_alloc ?_ _)); refine blk_far ?_ NB752_766.out _; (with_reducible repeat (first | refine blk_drewN ?_ _ | refine blk_drew ?_ | refine blk_alloc ?_ _)); exact BK752.out) hb); have n5_ := Aside0.mk (blk_below (g := gb753) (o := .cells #[.slice A1_0 l1_0.length c1_0] 36 (0, 0)) (by (with_reducible repeat (first | refine blk_drewN ?_ _ | refine blk_drew ?_ | refine blk_alloc ?_ _)); refine blk_far ?_ NB753_766.out _; (with_reducible repeat (first | refine blk_drewN ?_ _ | refine blk_drew ?_ | refine blk_alloc ?_ _)); exact BK753.out) hb); have n6_ := Aside0.mk (blk_below (g := gb766) (o := .cells #[.slice Ao41 t762.length co41] 26 (0, 0)) (by (with_reducible repeat (first | refine blk_drewN ?_ _ | refine blk_drew ?_ | refine blk_alloc ?_ _)); refine blk_put (cs := #[.slice none 0 0]) ?_ 0 _ rfl; (with_reducible repeat (first | refine blk_drewN ?_ _ | refine blk_drew ?_ | refine blk_alloc ?_ _)); exact BK766.out) hb); have n7_ := Aside0.mk (below_step (by repeat (first | (with_reducible first | exact HB.out | apply below_alloc | apply pw_below_drewN | apply below_drew1 | refine below_set ?_ GE752.out | refine below_set ?_ GE753.out | refine below_set ?_ GE766.out) | exact HB.out)) hb); clear HO758; clear HO761; clear HO764; clear BK752; clear BK753; clear BK766; clear HB; have HO758 := n0_; have HO761 := n1_; have HO764 := n2_; have HO769 := n3_; have BK752 := n4_; have BK753 := n5_; have BK766 := n6_; have HB := n7_; clear n0_ n1_ n2_ n3_ n4_ n5_ n6_ n7_; (try clear hb); (try clear hb2); (try clear hk); (try clear hi); (try clear ho0)) | ((with_reducible refine gate_dst (N := 8) rfl ?_); refine box_event ?hg (N := 8) ?hd (cs := #[.slice none 0 0]) (t := 26) ?hr ?_; (case hd => rfl); (case hg => rfl); (case hr => first | (go_simp; done) | (go_simp; rfl)); intro gb770 hg w46 hbox hb; have n0_ := Aside0.mk (Kd.R_below (by (with_reducible repeat (first | apply Kd.R_alloc | apply Kd.R_drewN | apply Kd.R_drew)); exact HO758.out) hb); have n1_ := Aside0.mk (Kd.R_below (by (with_reducible repeat (first | apply Kd.R_alloc | apply Kd.R_drewN | apply Kd.R_drew)); exact HO761.out) hb); have n2_ := Aside0.mk (Kd.R_below (by (with_reducible repeat (first | apply Kd.R_alloc | apply Kd.R_drewN | apply Kd.R_drew)); exact HO764.out) hb); have n3_ := Aside0.mk (Kd.R_below (by (with_reducible repeat (first | apply Kd.R_alloc | apply Kd.R_drewN | apply Kd.R_drew)); exact HO769.out) hb); have n4_ := Aside0.mk (blk_below (g := gb752) (o := .cells #[.slice A0_0 l0_0.length c0_0] 36 (0, 0)) (by (with_reducible repeat (first | refine blk_drewN ?_ _ | refine blk_drew ?_ | refine blk_alloc ?_ _)); exact BK752.out) hb); have n5_ := Aside0.mk (blk_below (g := gb753) (o := .cells #[.slice A1_0 l1_0.length c1_0] 36 (0, 0)) (by (with_reducible repeat (first | refine blk_drewN ?_ _ | refine blk_drew ?_ | refine blk_alloc ?_ _)); exact BK753.out) hb); have n6_ := Aside0.mk (blk_below (g := gb766) (o := .cells #[.slice Ao41 t762.length co41] 26 (0, 0)) (by (with_reducible repeat (first | refine blk_drewN ?_ _ | refine blk_drew ?_ | refine blk_alloc ?_ _)); exact BK766.out) hb); have n7_ := Aside0.mk (below_step (by repeat (first | (with_reducible first | exact HB.out | apply below_alloc | apply pw_below_drewN | apply below_drew1 | refine below_set ?_ GE752.out | refine below_set ?_ GE753.out | refine below_set ?_ GE766.out) | exact HB.out)) hb); have n8_ := Aside0.mk (hbox); have n9_ := Aside0.mk ((by rw [hg]; exact (below_size (by repeat (first | (with_reducible first | exact HB.out | apply below_alloc | apply pw_below_drewN | apply below_drew1 | refine below_set ?_ GE752.out | refine below_set ?_ GE753.out | refine below_set ?_ GE766.out) | exact HB.out))) : w.heap.size ≤ gb770)); have n10_ := Aside0.mk ((by rw [hg]; exact (below_size (by repeat (first | (with_reducible first | exact HB.out | apply below_alloc | apply pw_below_drewN | apply below_drew1 | refine below_set ?_ GE752.out | refine below_set ?_ GE753.out | refine below_set ?_ GE766.out) | exact HB.out))) : w.heap.size ≤ gb770)); have n11_ := Aside0.mk ((by rw [hg]; exact Nat.ne_of_lt (blk_lt (g := gb752) (o := .cells #[.slice A0_0 l0_0.length c0_0] 36 (0, 0)) (by (with_reducible repeat (first | refine blk_drewN ?_ _ | refine blk_drew ?_ | refine blk_alloc ?_ _)); exact BK752.out)) : gb752 ≠ gb770)); have n12_ := Aside0.mk ((by rw [hg]; exact Nat.ne_of_gt (blk_lt (g := gb752) (o := .cells #[.slice A0_0 l0_0.length c0_0] 36 (0, 0)) (by (with_reducible repeat (first | refine blk_drewN ?_ _ | refine blk_drew ?_ | refine blk_alloc ?_ _)); exact BK752.out)) : gb770 ≠ gb752)); have n13_ := Aside0.mk ((by rw [hg]; exact Nat.ne_of_lt (blk_lt (g := gb753) (o := .cells #[.slice A1_0 l1_0.length c1_0] 36 (0, 0)) (by (with_reducible repeat (first | refine blk_drewN ?_ _ | refine blk_drew ?_ | refine blk_alloc ?_ _)); exact BK753.out)) : gb753 ≠ gb770)); have n14_ := Aside0.mk ((by rw [hg]; exact Nat.ne_of_gt (blk_lt (g := gb753) (o := .cells #[.slice A1_0 l1_0.length c1_0] 36 (0, 0)) (by (with_reducible repeat (first | refine blk_drewN ?_ _ | refine blk_drew ?_ | refine blk_alloc ?_ _)); exact BK753.out)) : gb770 ≠ gb753)); have n15_ := Aside0.mk ((by rw [hg]; exact Nat.ne_of_lt (blk_lt (g := gb766) (o := .cells #[.slice Ao41 t762.length co41] 26 (0, 0)) (by (with_reducible repeat (first | refine blk_drewN ?_ _ | refine blk_drew ?_ | refine blk_alloc ?_ _)); exact BK766.out)) : gb766 ≠ gb770)); have n16_ := Aside0.mk ((by rw [hg]; exact Nat.ne_of_gt (blk_lt (g := gb766) (o := .cells #[.slice Ao41 t762.length co41] 26 (0, 0)) (by (with_reducible repeat (first | refine blk_drewN ?_ _ | refine blk_drew ?_ | refine blk_alloc ?_ _)); exact BK766.out)) : gb770 ≠ gb766)); clear HO758; clear HO761; clear HO764; clear HO769; clear BK752; clear BK753; clear BK766; clear HB; have HO758 := n0_; have HO761 := n1_; have HO764 := n2_; have HO769 := n3_; have BK752 := n4_; have BK753 := n5_; have BK766 := n6_; have HB := n7_; have BK770 := n8_; have GW770 := n9_; have GE770 := n10_; have NB752_770 := n11_; have NB770_752 := n12_; have NB753_770 := n13_; have NB770_753 := n14_; have NB766_770 := n15_; have NB770_766 := n16_; clear n0_ n1_ n2_ n3_ n4_ n5_ n6_ n7_ n8_ n9_ n10_ n11_ n12_ n13_ n14_ n15_ n16_; clear hb hbox hg; obtain ⟨Ao47, co47, eo47⟩ := Kd.R_slice HO769.out; subst eo47; have hnb48 := NB770_752.out; have hnc48 := NB752_770.out; have hnb49 := NB770_753.out; have hnc49 := NB753_770.out; have hnb50 := NB770_766.out; have hnc50 := NB766_770.out; have hcz51_0 : w46.cell? ⟨gb770, 0, none⟩ = some (.slice none 0 0) := (blk_cell BK770.out 0).trans rfl; have hfz51_0 := blk_frozen BK770.out 0; have hnb52 := NB753_766.out; have hnc52 := NB766_753.out; have hcz53_0 : w46.cell? ⟨gb753, 0, none⟩ = some (.slice A1_0 l1_0.length c1_0) := (blk_cell BK753.out 0).trans rfl; have hfz53_0 := blk_frozen BK753.out 0) | ((with_reducible refine gate_callee (f := 23) rfl ?_); refine goesL_ (some 38) rfl rfl Tryd.func23 (by kernel_rfl) rfl #[.agg #[.slice A1_0 l1_0.length c1_0]] rfl (by (try simp only [List.map_toArray, List.map_cons, List.map_nil]); first | done | rfl | (simp only [List.length_drop, List.length_take]; rfl)) ?_; (with_reducible refine (laws_toTrie.calls k _ _ l1_0 t771 _ ?side1 ?side2 A23.out).mono ?_); (case side1 => exact Kd.C_below HR1_0.out (by repeat (first | (with_reducible first | exact HB.out | apply below_alloc | apply pw_below_drewN | apply below_drew1 | refine below_set ?_ GE752.out | refine below_set ?_ GE753.out | refine below_set ?_ GE766.out | refine below_set ?_ GE770.out) | exact HB.out))); (case side2 => exact HC1_0.out); rintro e w54 ⟨v772, rfl, ho0, hb⟩; refine ⟨_, rfl, ?_⟩; have n0_ := Aside0.mk (Kd.R_elder' (by (with_reducible repeat (first | apply Kd.R_alloc | apply Kd.R_drewN | apply Kd.R_drew)); exact (Kd.R_mono (R_same_ (Kd.R_far (p := ⟨gb770, 0, none⟩) (Kd.R_types HO758.out BK770.out (by decide)) (fun _ hk => hk.2) (.slice Ao47 t767.length co47)) rfl) (fun _ h_ => h_.1))) (Kd.R_base ho0) hb); have n1_ := Aside0.mk (Kd.R_elder' (by (with_reducible repeat (first | apply Kd.R_alloc | apply Kd.R_drewN | apply Kd.R_drew)); exact (Kd.R_mono (R_same_ (Kd.R_far (p := ⟨gb770, 0, none⟩) (Kd.R_types HO761.out BK770.out (by decide)) (fun _ hk => hk.2) (.slice Ao47 t767.length co47)) rfl) (fun _ h_ => h_.1))) (Kd.R_base ho0) hb); have n2_ := Aside0.mk (Kd.R_elder' (by (with_reducible repeat (first | apply Kd.R_alloc | apply Kd.R_drewN | apply Kd.R_drew)); exact (Kd.R_mono (R_same_ (Kd.R_far (p := ⟨gb770, 0, none⟩) (Kd.R_types HO764.out BK770.out (by decide)) (fun _ hk => hk.2) (.slice Ao47 t767.length co47)) rfl) (fun _ h_ => h_.1))) (Kd.R_base ho0) hb); have n3_ := Aside0.mk (Kd.R_elder' (by (with_reducible repeat (first | apply Kd.R_alloc | apply Kd.R_drewN | apply Kd.R_drew)); exact (Kd.R_mono (R_same_ (Kd.R_far (p := ⟨gb770, 0, none⟩) (Kd.R_types HO769.out BK770.out (by decide)) (fun _ hk => hk.2) (.slice Ao47 t767.length co47)) rfl) (fun _ h_ => h_.1))) (Kd.R_base ho0) hb); have n4_ := Aside0.mk (Kd.R_lower (Kd.R_new' (Kd.R_new' (Kd.R_new' (Kd.R_new' ho0 (Kd.R_lt (by (with_reducible repeat (first | apply Kd.R_alloc | apply Kd.R_drewN | apply Kd.R_drew)); exact (Kd.R_mono (R_same_ (Kd.R_far (p := ⟨gb770, 0, none⟩) (Kd.R_types HO758.out BK770.out (by decide)) (fun _ hk => hk.2) (.slice Ao47 t767.length co47)) rfl) (fun _ h_ => h_.1))))) (Kd.R_lt (by (with_reducible repeat (first | apply Kd.R_alloc | apply Kd.R_drewN | apply Kd.R_drew)); exact (Kd.R_mono (R_same_ (Kd.R_far (p := ⟨gb770, 0, none⟩) (Kd.R_types HO761.out BK770.out (by decide)) (fun _ hk => hk.2) (.slice Ao47 t767.length co47)) rfl) (fun _ h_ => h_.1))))) (Kd.R_lt (by (with_reducible repeat (first | apply Kd.R_alloc | apply Kd.R_drewN | apply Kd.R_drew)); exact (Kd.R_mono (R_same_ (Kd.R_far (p := ⟨gb770, 0, none⟩) (Kd.R_types HO764.out BK770.out (by decide)) (fun _ hk => hk.2) (.slice Ao47 t767.length co47)) rfl) (fun _ h_ => h_.1))))) (Kd.R_lt (by (with_reducible repeat (first | apply Kd.R_alloc | apply Kd.R_drewN | apply Kd.R_drew)); exact (Kd.R_mono (R_same_ (Kd.R_far (p := ⟨gb770, 0, none⟩) (Kd.R_types HO769.out BK770.out (by decide)) (fun _ hk => hk.2) (.slice Ao47 t767.length co47)) rfl) (fun _ h_ => h_.1))))) (below_size (by repeat (first | (with_reducible first | exact HB.out | apply below_alloc | apply pw_below_drewN | apply below_drew1 | refine below_set ?_ GE752.out | refine below_set ?_ GE753.out | refine below_set ?_ GE766.out | refine below_set ?_ GE770.out) | exact HB.out)))); have n5_ := Aside0.mk (blk_below (g := gb752) (o := .cells #[.slice A0_0 l0_0.length c0_0] 36 (0, 0)) (by (with_reducible repeat (first | refine blk_drewN ?_ _ | refine blk_drew ?_ | refine blk_alloc ?_ _)); refine blk_far ?_ NB752_770.out _; (with_reducible repeat (first | refine blk_drewN ?_ _ | refine blk_drew ?_ | refine blk_alloc ?_ _)); exact BK752.out) hb); have n6_ := Aside0.mk (blk_below (g := gb753) (o := .cells #[.slice A1_0 l1_0.length c1_0] 36 (0, 0)) (by (with_reducible repeat (first | refine blk_drewN ?_ _ | refine blk_drew ?_ | refine blk_alloc ?_ _)); refine blk_far ?_ NB753_770.out _; (with_reducible repeat (first | refine blk_drewN ?_ _ | refine blk_drew ?_ | refine blk_alloc ?_ _)); exact BK753.out) hb); have n7_ := Aside0.mk (blk_below (g := gb766) (o := .cells #[.slice Ao41 t762.length co41] 26 (0, 0)) (by (with_reducible repeat (first | refine blk_drewN ?_ _ | refine blk_drew ?_ | refine blk_alloc ?_ _)); refine blk_far ?_ NB766_770.out _; (with_reducible repeat (first | refine blk_drewN ?_ _ | refine blk_drew ?_ | refine blk_alloc ?_ _)); exact BK766.out) hb); have n8_ := Aside0.mk (blk_below (g := gb770) (o := .cells #[.slice Ao47 t767.length co47] 26 (0, 0)) (by (with_reducible repeat (first | refine blk_drewN ?_ _ | refine blk_drew ?_ | refine blk_alloc ?_ _)); refine blk_put (cs := #[.slice none 0 0]) ?_ 0 _ rfl; (with_reducible repeat (first | refine blk_drewN ?_ _ | refine blk_drew ?_ | refine blk_alloc ?_ _)); exact BK770.out) hb); have n9_ := Aside0.mk (below_step (by repeat (first | (with_reducible first | exact HB.out | apply below_alloc | apply pw_below_drewN | apply below_drew1 | refine below_set ?_ GE752.out | refine below_set ?_ GE753.out | refine below_set ?_ GE766.out | refine below_set ?_ GE770.out) | exact HB.out)) hb); clear HO758; clear HO761; clear HO764; clear HO769; clear BK752; clear BK753; clear BK766; clear BK770; clear HB; have HO758 := n0_; have HO761 := n1_; have HO764 := n2_; have HO769 := n3_; have HO773 := n4_; have BK752 := n5_; have BK753 := n6_; have BK766 := n7_; have BK770 := n8_; have HB := n9_; clear n0_ n1_ n2_ n3_ n4_ n5_ n6_ n7_ n8_ n9_; (try clear hb); (try clear hb2); (try clear hk); (try clear hi); (try clear ho0)) | ((with_reducible refine gate_dst (N := 9) rfl ?_); refine box_event ?hg (N := 9) ?hd (cs := #[.slice none 0 0]) (t := 26) ?hr ?_; (case hd => rfl); (case hg => rfl); (case hr => first | (go_simp; done) | (go_simp; rfl)); intro gb774 hg w55 hbox hb; have n0_ := Aside0.mk (Kd.R_below (by (with_reducible repeat (first | apply Kd.R_alloc | apply Kd.R_drewN | apply Kd.R_drew)); exact HO758.out) hb); have n1_ := Aside0.mk (Kd.R_below (by (with_reducible repeat (first | apply Kd.R_alloc | apply Kd.R_drewN | apply Kd.R_drew)); exact HO761.out) hb); have n2_ := Aside0.mk (Kd.R_below (by (with_reducible repeat (first | apply Kd.R_alloc | apply Kd.R_drewN | apply Kd.R_drew)); exact HO764.out) hb); have n3_ := Aside0.mk (Kd.R_below (by (with_reducible repeat (first | apply Kd.R_alloc | apply Kd.R_drewN | apply Kd.R_drew)); exact HO769.out) hb); have n4_ := Aside0.mk (Kd.R_below (by (with_reducible repeat (first | apply Kd.R_alloc | apply Kd.R_drewN | apply Kd.R_drew)); exact HO773.out) hb); have n5_ := Aside0.mk (blk_below (g := gb752) (o := .cells #[.slice A0_0 l0_0.length c0_0] 36 (0, 0)) (by (with_reducible repeat (first | refine blk_drewN ?_ _ | refine blk_drew ?_ | refine blk_alloc ?_ _)); exact BK752.out) hb); have n6_ := Aside0.mk (blk_below (g := gb753) (o := .cells #[.slice A1_0 l1_0.length c1_0] 36 (0, 0)) (by (with_reducible repeat (first | refine blk_drewN ?_ _ | refine blk_drew ?_ | refine blk_alloc ?_ _)); exact BK753.out) hb); have n7_ := Aside0.mk (blk_below (g := gb766) (o := .cells #[.slice Ao41 t762.length co41] 26 (0, 0)) (by (with_reducible repeat (first | refine blk_drewN ?_ _ | refine blk_drew ?_ | refine blk_alloc ?_ _)); exact BK766.out) hb); have n8_ := Aside0.mk (blk_below (g := gb770) (o := .cells #[.slice Ao47 t767.length co47] 26 (0, 0)) (by (with_reducible repeat (first | refine blk_drewN ?_ _ | refine blk_drew ?_ | refine blk_alloc ?_ _)); exact BK770.out) hb); have n9_ := Aside0.mk (below_step (by repeat (first | (with_reducible first | exact HB.out | apply below_alloc | apply pw_below_drewN | apply below_drew1 | refine below_set ?_ GE752.out | refine below_set ?_ GE753.out | refine below_set ?_ GE766.out | refine below_set ?_ GE770.out) | exact HB.out)) hb); have n10_ := Aside0.mk (hbox); have n11_ := Aside0.mk ((by rw [hg]; exact (below_size (by repeat (first | (with_reducible first | exact HB.out | apply below_alloc | apply pw_below_drewN | apply below_drew1 | refine below_set ?_ GE752.out | refine below_set ?_ GE753.out | refine below_set ?_ GE766.out | refine below_set ?_ GE770.out) | exact HB.out))) : w.heap.size ≤ gb774)); have n12_ := Aside0.mk ((by rw [hg]; exact (below_size (by repeat (first | (with_reducible first | exact HB.out | apply below_alloc | apply pw_below_drewN | apply below_drew1 | refine below_set ?_ GE752.out | refine below_set ?_ GE753.out | refine below_set ?_ GE766.out | refine below_set ?_ GE770.out) | exact HB.out))) : w.heap.size ≤ gb774)); have n13_ := Aside0.mk ((by rw [hg]; exact Nat.ne_of_lt (blk_lt (g := gb752) (o := .cells #[.slice A0_0 l0_0.length c0_0] 36 (0, 0)) (by (with_reducible repeat (first | refine blk_drewN ?_ _ | refine blk_drew ?_ | refine blk_alloc ?_ _)); exact BK752.out)) : gb752 ≠ gb774)); have n14_ := Aside0.mk ((by rw [hg]; exact Nat.ne_of_gt (blk_lt (g := gb752) (o := .cells #[.slice A0_0 l0_0.length c0_0] 36 (0, 0)) (by (with_reducible repeat (first | refine blk_drewN ?_ _ | refine blk_drew ?_ | refine blk_alloc ?_ _)); exact BK752.out)) : gb774 ≠ gb752)); have n15_ := Aside0.mk ((by rw [hg]; exact Nat.ne_of_lt (blk_lt (g := gb753) (o := .cells #[.slice A1_0 l1_0.length c1_0] 36 (0, 0)) (by (with_reducible repeat (first | refine blk_drewN ?_ _ | refine blk_drew ?_ | refine blk_alloc ?_ _)); exact BK753.out)) : gb753 ≠ gb774)); have n16_ := Aside0.mk ((by rw [hg]; exact Nat.ne_of_gt (blk_lt (g := gb753) (o := .cells #[.slice A1_0 l1_0.length c1_0] 36 (0, 0)) (by (with_reducible repeat (first | refine blk_drewN ?_ _ | refine blk_drew ?_ | refine blk_alloc ?_ _)); exact BK753.out)) : gb774 ≠ gb753)); have n17_ := Aside0.mk ((by rw [hg]; exact Nat.ne_of_lt (blk_lt (g := gb766) (o := .cells #[.slice Ao41 t762.length co41] 26 (0, 0)) (by (with_reducible repeat (first | refine blk_drewN ?_ _ | refine blk_drew ?_ | refine blk_alloc ?_ _)); exact BK766.out)) : gb766 ≠ gb774)); have n18_ := Aside0.mk ((by rw [hg]; exact Nat.ne_of_gt (blk_lt (g := gb766) (o := .cells #[.slice Ao41 t762.length co41] 26 (0, 0)) (by (with_reducible repeat (first | refine blk_drewN ?_ _ | refine blk_drew ?_ | refine blk_alloc ?_ _)); exact BK766.out)) : gb774 ≠ gb766)); have n19_ := Aside0.mk ((by rw [hg]; exact Nat.ne_of_lt (blk_lt (g := gb770) (o := .cells #[.slice Ao47 t767.length co47] 26 (0, 0)) (by (with_reducible repeat (first | refine blk_drewN ?_ _ | refine blk_drew ?_ | refine blk_alloc ?_ _)); exact BK770.out)) : gb770 ≠ gb774)); have n20_ := Aside0.mk ((by rw [hg]; exact Nat.ne_of_gt (blk_lt (g := gb770) (o := .cells #[.slice Ao47 t767.length co47] 26 (0, 0)) (by (with_reducible repeat (first | refine blk_drewN ?_ _ | refine blk_drew ?_ | refine blk_alloc ?_ _)); exact BK770.out)) : gb774 ≠ gb770)); clear HO758; clear HO761; clear HO764; clear HO769; clear HO773; clear BK752; clear BK753; clear BK766; clear BK770; clear HB; have HO758 := n0_; have HO761 := n1_; have HO764 := n2_; have HO769 := n3_; have HO773 := n4_; have BK752 := n5_; have BK753 := n6_; have BK766 := n7_; have BK770 := n8_; have HB := n9_; have BK774 := n10_; have GW774 := n11_; have GE774 := n12_; have NB752_774 := n13_; have NB774_752 := n14_; have NB753_774 := n15_; have NB774_753 := n16_; have NB766_774 := n17_; have NB774_766 := n18_; have NB770_774 := n19_; have NB774_770 := n20_; clear n0_ n1_ n2_ n3_ n4_ n5_ n6_ n7_ n8_ n9_ n10_ n11_ n12_ n13_ n14_ n15_ n16_ n17_ n18_ n19_ n20_; clear hb hbox hg; obtain ⟨Ao56, co56, eo56⟩ := Kd.R_slice HO773.out; subst eo56; have hnb57 := NB774_752.out; have hnc57 := NB752_774.out; have hnb58 := NB774_753.out; have hnc58 := NB753_774.out; have hnb59 := NB774_766.out; have hnc59 := NB766_774.out; have hnb60 := NB774_770.out; have hnc60 := NB770_774.out; have hcz61_0 : w55.cell? ⟨gb774, 0, none⟩ = some (.slice none 0 0) := (blk_cell BK774.out 0).trans rfl; have hfz61_0 := blk_frozen BK774.out 0; have hcz62_0 : w55.cell? ⟨gb770, 0, none⟩ = some (.slice Ao47 t767.length co47) := (blk_cell BK770.out 0).trans rfl; have hfz62_0 := blk_frozen BK770.out 0) | ((with_reducible refine gate_callee (f := 34) rfl ?_); refine goesL_ (some 42) rfl rfl Tryd.func34 (by kernel_rfl) rfl #[.agg #[.slice Ao47 t767.length co47], .agg #[.slice Ao56 t771.length co56]] rfl (by (try simp only [List.map_toArray, List.map_cons, List.map_nil]); first | done | rfl | (simp only [List.length_drop, List.length_take]; rfl)) ?_; (with_reducible refine (impl_TimesTrie.calls k _ _ t767 _ _ t771 t775 t778 _ ?side1 ?side2 ?side3 ?side4 A24.out).mono ?_); (case side1 => refine (Kd.R_reads' (e := 76) (base := w.heap.size) (ok := fun k_ => ((((True ∧ some k_ ≠ (v757 : Value).ownBlock) ∧ some k_ ≠ (v760 : Value).ownBlock) ∧ some k_ ≠ (.slice Ao41 t762.length co41 : Value).ownBlock) ∧ some k_ ≠ (.slice Ao56 t771.length co56 : Value).ownBlock)) (n := t767.length) (c := co47) ?_).2.2; exact (by (with_reducible repeat (first | apply Kd.R_alloc | apply Kd.R_drewN | apply Kd.R_drew)); exact (Kd.R_mono (R_same_ (Kd.R_far (p := ⟨gb774, 0, none⟩) (Kd.R_types HO769.out BK774.out (by decide)) (fun _ hk => hk.2) (.slice Ao56 t771.length co56)) rfl) (fun _ h_ => h_.1)))); (case side2 => exact (Kd.R_reads' HO769.out).2.1); (case side3 => refine (Kd.R_reads' (e := 76) (base := w.heap.size) (ok := fun k_ => ((((True ∧ some k_ ≠ (v757 : Value).ownBlock) ∧ some k_ ≠ (v760 : Value).ownBlock) ∧ some k_ ≠ (.slice Ao41 t762.length co41 : Value).ownBlock) ∧ some k_ ≠ (.slice Ao47 t767.length co47 : Value).ownBlock)) (n := t771.length) (c := co56) ?_).2.2; exact (by (with_reducible repeat (first | apply Kd.R_alloc | apply Kd.R_drewN | apply Kd.R_drew)); exact (Kd.R_mono (R_same_ (Kd.R_far (p := ⟨gb774, 0, none⟩) (Kd.R_types HO773.out BK774.out (by decide)) (fun _ hk => hk.2) (.slice Ao56 t771.length co56)) rfl) (fun _ h_ => h_.1)))); (case side4 => exact (Kd.R_reads' HO773.out).2.1); rintro e w63 ⟨v776, rfl, ho0, hb⟩; refine ⟨_, rfl, ?_⟩; have n0_ := Aside0.mk (Kd.R_elder' (by (with_reducible repeat (first | apply Kd.R_alloc | apply Kd.R_drewN | apply Kd.R_drew)); exact (Kd.R_mono (R_same_ (Kd.R_far (p := ⟨gb774, 0, none⟩) (Kd.R_types HO758.out BK774.out (by decide)) (fun _ hk => hk.2) (.slice Ao56 t771.length co56)) rfl) (fun _ h_ => h_.1))) (Kd.R_base ho0) hb); have n1_ := Aside0.mk (Kd.R_elder' (by (with_reducible repeat (first | apply Kd.R_alloc | apply Kd.R_drewN | apply Kd.R_drew)); exact (Kd.R_mono (R_same_ (Kd.R_far (p := ⟨gb774, 0, none⟩) (Kd.R_types HO761.out BK774.out (by decide)) (fun _ hk => hk.2) (.slice Ao56 t771.length co56)) rfl) (fun _ h_ => h_.1))) (Kd.R_base ho0) hb); have n2_ := Aside0.mk (Kd.R_elder' (by (with_reducible repeat (first | apply Kd.R_alloc | apply Kd.R_drewN | apply Kd.R_drew)); exact (Kd.R_mono (R_same_ (Kd.R_far (p := ⟨gb774, 0, none⟩) (Kd.R_types HO764.out BK774.out (by decide)) (fun _ hk => hk.2) (.slice Ao56 t771.length co56)) rfl) (fun _ h_ => h_.1))) (Kd.R_base ho0) hb); have n3_ := Aside0.mk (Kd.R_elder' (by (with_reducible repeat (first | apply Kd.R_alloc | apply Kd.R_drewN | apply Kd.R_drew)); exact (Kd.R_mono (R_same_ (Kd.R_far (p := ⟨gb774, 0, none⟩) (Kd.R_types HO769.out BK774.out (by decide)) (fun _ hk => hk.2) (.slice Ao56 t771.length co56)) rfl) (fun _ h_ => h_.1))) (Kd.R_base ho0) hb); have n4_ := Aside0.mk (Kd.R_elder' (by (with_reducible repeat (first | apply Kd.R_alloc | apply Kd.R_drewN | apply Kd.R_drew)); exact (Kd.R_mono (R_same_ (Kd.R_far (p := ⟨gb774, 0, none⟩) (Kd.R_types HO773.out BK774.out (by decide)) (fun _ hk => hk.2) (.slice Ao56 t771.length co56)) rfl) (fun _ h_ => h_.1))) (Kd.R_base ho0) hb); have n5_ := Aside0.mk (Kd.R_lower (Kd.R_new' (Kd.R_new' (Kd.R_new' (Kd.R_new' (Kd.R_new' ho0 (Kd.R_lt (by (with_reducible repeat (first | apply Kd.R_alloc | apply Kd.R_drewN | apply Kd.R_drew)); exact (Kd.R_mono (R_same_ (Kd.R_far (p := ⟨gb774, 0, none⟩) (Kd.R_types HO758.out BK774.out (by decide)) (fun _ hk => hk.2) (.slice Ao56 t771.length co56)) rfl) (fun _ h_ => h_.1))))) (Kd.R_lt (by (with_reducible repeat (first | apply Kd.R_alloc | apply Kd.R_drewN | apply Kd.R_drew)); exact (Kd.R_mono (R_same_ (Kd.R_far (p := ⟨gb774, 0, none⟩) (Kd.R_types HO761.out BK774.out (by decide)) (fun _ hk => hk.2) (.slice Ao56 t771.length co56)) rfl) (fun _ h_ => h_.1))))) (Kd.R_lt (by (with_reducible repeat (first | apply Kd.R_alloc | apply Kd.R_drewN | apply Kd.R_drew)); exact (Kd.R_mono (R_same_ (Kd.R_far (p := ⟨gb774, 0, none⟩) (Kd.R_types HO764.out BK774.out (by decide)) (fun _ hk => hk.2) (.slice Ao56 t771.length co56)) rfl) (fun _ h_ => h_.1))))) (Kd.R_lt (by (with_reducible repeat (first | apply Kd.R_alloc | apply Kd.R_drewN | apply Kd.R_drew)); exact (Kd.R_mono (R_same_ (Kd.R_far (p := ⟨gb774, 0, none⟩) (Kd.R_types HO769.out BK774.out (by decide)) (fun _ hk => hk.2) (.slice Ao56 t771.length co56)) rfl) (fun _ h_ => h_.1))))) (Kd.R_lt (by (with_reducible repeat (first | apply Kd.R_alloc | apply Kd.R_drewN | apply Kd.R_drew)); exact (Kd.R_mono (R_same_ (Kd.R_far (p := ⟨gb774, 0, none⟩) (Kd.R_types HO773.out BK774.out (by decide)) (fun _ hk => hk.2) (.slice Ao56 t771.length co56)) rfl) (fun _ h_ => h_.1))))) (below_size (by repeat (first | (with_reducible first | exact HB.out | apply below_alloc | apply pw_below_drewN | apply below_drew1 | refine below_set ?_ GE752.out | refine below_set ?_ GE753.out | refine below_set ?_ GE766.out | refine below_set ?_ GE770.out | refine below_set ?_ GE774.out) | exact HB.out)))); have n6_ := Aside0.mk (blk_below (g := gb752) (o := .cells #[.slice A0_0 l0_0.length c0_0] 36 (0, 0)) (by (with_reducible repeat (first | refine blk_drewN ?_ _ | refine blk_drew ?_ | refine blk_alloc ?_ _)); refine blk_far ?_ NB752_774.out _; (with_reducible repeat (first | refine blk_drewN ?_ _ | refine blk_drew ?_ | refine blk_alloc ?_ _)); exact BK752.out) hb); have n7_ := Aside0.mk (blk_below (g := gb753) (o := .cells #[.slice A1_0 l1_0.length c1_0] 36 (0, 0)) (by (with_reducible repeat (first | refine blk_drewN ?_ _ | refine blk_drew ?_ | refine blk_alloc ?_ _)); refine blk_far ?_ NB753_774.out _; (with_reducible repeat (first | refine blk_drewN ?_ _ | refine blk_drew ?_ | refine blk_alloc ?_ _)); exact BK753.out) hb); have n8_ := Aside0.mk (blk_below (g := gb766) (o := .cells #[.slice Ao41 t762.length co41] 26 (0, 0)) (by (with_reducible repeat (first | refine blk_drewN ?_ _ | refine blk_drew ?_ | refine blk_alloc ?_ _)); refine blk_far ?_ NB766_774.out _; (with_reducible repeat (first | refine blk_drewN ?_ _ | refine blk_drew ?_ | refine blk_alloc ?_ _)); exact BK766.out) hb); have n9_ := Aside0.mk (blk_below (g := gb770) (o := .cells #[.slice Ao47 t767.length co47] 26 (0, 0)) (by (with_reducible repeat (first | refine blk_drewN ?_ _ | refine blk_drew ?_ | refine blk_alloc ?_ _)); refine blk_far ?_ NB770_774.out _; (with_reducible repeat (first | refine blk_drewN ?_ _ | refine blk_drew ?_ | refine blk_alloc ?_ _)); exact BK770.out) hb); have n10_ := Aside0.mk (blk_below (g := gb774) (o := .cells #[.slice Ao56 t771.length co56] 26 (0, 0)) (by (with_reducible repeat (first | refine blk_drewN ?_ _ | refine blk_drew ?_ | refine blk_alloc ?_ _)); refine blk_put (cs := #[.slice none 0 0]) ?_ 0 _ rfl; (with_reducible repeat (first | refine blk_drewN ?_ _ | refine blk_drew ?_ | refine blk_alloc ?_ _)); exact BK774.out) hb); have n11_ := Aside0.mk (below_step (by repeat (first | (with_reducible first | exact HB.out | apply below_alloc | apply pw_below_drewN | apply below_drew1 | refine below_set ?_ GE752.out | refine below_set ?_ GE753.out | refine below_set ?_ GE766.out | refine below_set ?_ GE770.out | refine below_set ?_ GE774.out) | exact HB.out)) hb); clear HO758; clear HO761; clear HO764; clear HO769; clear HO773; clear BK752; clear BK753; clear BK766; clear BK770; clear BK774; clear HB; have HO758 := n0_; have HO761 := n1_; have HO764 := n2_; have HO769 := n3_; have HO773 := n4_; have HO777 := n5_; have BK752 := n6_; have BK753 := n7_; have BK766 := n8_; have BK770 := n9_; have BK774 := n10_; have HB := n11_; clear n0_ n1_ n2_ n3_ n4_ n5_ n6_ n7_ n8_ n9_ n10_ n11_; (try clear hb); (try clear hb2); (try clear hk); (try clear hi); (try clear ho0)) | ((with_reducible refine gate_dst (N := 10) rfl ?_); refine box_event ?hg (N := 10) ?hd (cs := #[.slice none 0 0]) (t := 26) ?hr ?_; (case hd => rfl); (case hg => rfl); (case hr => first | (go_simp; done) | (go_simp; rfl)); intro gb779 hg w64 hbox hb; have n0_ := Aside0.mk (Kd.R_below (by (with_reducible repeat (first | apply Kd.R_alloc | apply Kd.R_drewN | apply Kd.R_drew)); exact HO758.out) hb); have n1_ := Aside0.mk (Kd.R_below (by (with_reducible repeat (first | apply Kd.R_alloc | apply Kd.R_drewN | apply Kd.R_drew)); exact HO761.out) hb); have n2_ := Aside0.mk (Kd.R_below (by (with_reducible repeat (first | apply Kd.R_alloc | apply Kd.R_drewN | apply Kd.R_drew)); exact HO764.out) hb); have n3_ := Aside0.mk (Kd.R_below (by (with_reducible repeat (first | apply Kd.R_alloc | apply Kd.R_drewN | apply Kd.R_drew)); exact HO769.out) hb); have n4_ := Aside0.mk (Kd.R_below (by (with_reducible repeat (first | apply Kd.R_alloc | apply Kd.R_drewN | apply Kd.R_drew)); exact HO773.out) hb); have n5_ := Aside0.mk (Kd.R_below (by (with_reducible repeat (first | apply Kd.R_alloc | apply Kd.R_drewN | apply Kd.R_drew)); exact HO777.out) hb); have n6_ := Aside0.mk (blk_below (g := gb752) (o := .cells #[.slice A0_0 l0_0.length c0_0] 36 (0, 0)) (by (with_reducible repeat (first | refine blk_drewN ?_ _ | refine blk_drew ?_ | refine blk_alloc ?_ _)); exact BK752.out) hb); have n7_ := Aside0.mk (blk_below (g := gb753) (o := .cells #[.slice A1_0 l1_0.length c1_0] 36 (0, 0)) (by (with_reducible repeat (first | refine blk_drewN ?_ _ | refine blk_drew ?_ | refine blk_alloc ?_ _)); exact BK753.out) hb); have n8_ := Aside0.mk (blk_below (g := gb766) (o := .cells #[.slice Ao41 t762.length co41] 26 (0, 0)) (by (with_reducible repeat (first | refine blk_drewN ?_ _ | refine blk_drew ?_ | refine blk_alloc ?_ _)); exact BK766.out) hb); have n9_ := Aside0.mk (blk_below (g := gb770) (o := .cells #[.slice Ao47 t767.length co47] 26 (0, 0)) (by (with_reducible repeat (first | refine blk_drewN ?_ _ | refine blk_drew ?_ | refine blk_alloc ?_ _)); exact BK770.out) hb); have n10_ := Aside0.mk (blk_below (g := gb774) (o := .cells #[.slice Ao56 t771.length co56] 26 (0, 0)) (by (with_reducible repeat (first | refine blk_drewN ?_ _ | refine blk_drew ?_ | refine blk_alloc ?_ _)); exact BK774.out) hb); have n11_ := Aside0.mk (below_step (by repeat (first | (with_reducible first | exact HB.out | apply below_alloc | apply pw_below_drewN | apply below_drew1 | refine below_set ?_ GE752.out | refine below_set ?_ GE753.out | refine below_set ?_ GE766.out | refine below_set ?_ GE770.out | refine below_set ?_ GE774.out) | exact HB.out)) hb); have n12_ := Aside0.mk (hbox); have n13_ := Aside0.mk ((by rw [hg]; exact (below_size (by repeat (first | (with_reducible first | exact HB.out | apply below_alloc | apply pw_below_drewN | apply below_drew1 | refine below_set ?_ GE752.out | refine below_set ?_ GE753.out | refine below_set ?_ GE766.out | refine below_set ?_ GE770.out | refine below_set ?_ GE774.out) | exact HB.out))) : w.heap.size ≤ gb779)); have n14_ := Aside0.mk ((by rw [hg]; exact (below_size (by repeat (first | (with_reducible first | exact HB.out | apply below_alloc | apply pw_below_drewN | apply below_drew1 | refine below_set ?_ GE752.out | refine below_set ?_ GE753.out | refine below_set ?_ GE766.out | refine below_set ?_ GE770.out | refine below_set ?_ GE774.out) | exact HB.out))) : w.heap.size ≤ gb779)); have n15_ := Aside0.mk ((by rw [hg]; exact Nat.ne_of_lt (blk_lt (g := gb752) (o := .cells #[.slice A0_0 l0_0.length c0_0] 36 (0, 0)) (by (with_reducible repeat (first | refine blk_drewN ?_ _ | refine blk_drew ?_ | refine blk_alloc ?_ _)); exact BK752.out)) : gb752 ≠ gb779)); have n16_ := Aside0.mk ((by rw [hg]; exact Nat.ne_of_gt (blk_lt (g := gb752) (o := .cells #[.slice A0_0 l0_0.length c0_0] 36 (0, 0)) (by (with_reducible repeat (first | refine blk_drewN ?_ _ | refine blk_drew ?_ | refine blk_alloc ?_ _)); exact BK752.out)) : gb779 ≠ gb752)); have n17_ := Aside0.mk ((by rw [hg]; exact Nat.ne_of_lt (blk_lt (g := gb753) (o := .cells #[.slice A1_0 l1_0.length c1_0] 36 (0, 0)) (by (with_reducible repeat (first | refine blk_drewN ?_ _ | refine blk_drew ?_ | refine blk_alloc ?_ _)); exact BK753.out)) : gb753 ≠ gb779)); have n18_ := Aside0.mk ((by rw [hg]; exact Nat.ne_of_gt (blk_lt (g := gb753) (o := .cells #[.slice A1_0 l1_0.length c1_0] 36 (0, 0)) (by (with_reducible repeat (first | refine blk_drewN ?_ _ | refine blk_drew ?_ | refine blk_alloc ?_ _)); exact BK753.out)) : gb779 ≠ gb753)); have n19_ := Aside0.mk ((by rw [hg]; exact Nat.ne_of_lt (blk_lt (g := gb766) (o := .cells #[.slice Ao41 t762.length co41] 26 (0, 0)) (by (with_reducible repeat (first | refine blk_drewN ?_ _ | refine blk_drew ?_ | refine blk_alloc ?_ _)); exact BK766.out)) : gb766 ≠ gb779)); have n20_ := Aside0.mk ((by rw [hg]; exact Nat.ne_of_gt (blk_lt (g := gb766) (o := .cells #[.slice Ao41 t762.length co41] 26 (0, 0)) (by (with_reducible repeat (first | refine blk_drewN ?_ _ | refine blk_drew ?_ | refine blk_alloc ?_ _)); exact BK766.out)) : gb779 ≠ gb766)); have n21_ := Aside0.mk ((by rw [hg]; exact Nat.ne_of_lt (blk_lt (g := gb770) (o := .cells #[.slice Ao47 t767.length co47] 26 (0, 0)) (by (with_reducible repeat (first | refine blk_drewN ?_ _ | refine blk_drew ?_ | refine blk_alloc ?_ _)); exact BK770.out)) : gb770 ≠ gb779)); have n22_ := Aside0.mk ((by rw [hg]; exact Nat.ne_of_gt (blk_lt (g := gb770) (o := .cells #[.slice Ao47 t767.length co47] 26 (0, 0)) (by (with_reducible repeat (first | refine blk_drewN ?_ _ | refine blk_drew ?_ | refine blk_alloc ?_ _)); exact BK770.out)) : gb779 ≠ gb770)); have n23_ := Aside0.mk ((by rw [hg]; exact Nat.ne_of_lt (blk_lt (g := gb774) (o := .cells #[.slice Ao56 t771.length co56] 26 (0, 0)) (by (with_reducible repeat (first | refine blk_drewN ?_ _ | refine blk_drew ?_ | refine blk_alloc ?_ _)); exact BK774.out)) : gb774 ≠ gb779)); have n24_ := Aside0.mk ((by rw [hg]; exact Nat.ne_of_gt (blk_lt (g := gb774) (o := .cells #[.slice Ao56 t771.length co56] 26 (0, 0)) (by (with_reducible repeat (first | refine blk_drewN ?_ _ | refine blk_drew ?_ | refine blk_alloc ?_ _)); exact BK774.out)) : gb779 ≠ gb774)); clear HO758; clear HO761; clear HO764; clear HO769; clear HO773; clear HO777; clear BK752; clear BK753; clear BK766; clear BK770; clear BK774; clear HB; have HO758 := n0_; have HO761 := n1_; have HO764 := n2_; have HO769 := n3_; have HO773 := n4_; have HO777 := n5_; have BK752 := n6_; have BK753 := n7_; have BK766 := n8_; have BK770 := n9_; have BK774 := n10_; have HB := n11_; have BK779 := n12_; have GW779 := n13_; have GE779 := n14_; have NB752_779 := n15_; have NB779_752 := n16_; have NB753_779 := n17_; have NB779_753 := n18_; have NB766_779 := n19_; have NB779_766 := n20_; have NB770_779 := n21_; have NB779_770 := n22_; have NB774_779 := n23_; have NB779_774 := n24_; clear n0_ n1_ n2_ n3_ n4_ n5_ n6_ n7_ n8_ n9_ n10_ n11_ n12_ n13_ n14_ n15_ n16_ n17_ n18_ n19_ n20_ n21_ n22_ n23_ n24_; clear hb hbox hg; obtain ⟨Ao65, co65, eo65⟩ := Kd.R_slice HO777.out; subst eo65; have hnb66 := NB779_752.out; have hnc66 := NB752_779.out; have hnb67 := NB779_753.out; have hnc67 := NB753_779.out; have hnb68 := NB779_766.out; have hnc68 := NB766_779.out; have hnb69 := NB779_770.out; have hnc69 := NB770_779.out; have hnb70 := NB779_774.out; have hnc70 := NB774_779.out; have hcz71_0 : w64.cell? ⟨gb779, 0, none⟩ = some (.slice none 0 0) := (blk_cell BK779.out 0).trans rfl; have hfz71_0 := blk_frozen BK779.out 0))
   (try simp only [Act.put, List.setIfInBounds_toArray, List.set_cons_zero, List.set_cons_succ])
   go_cut [53] (fun v53 wc => ∃ (kq : Nat) (x53_24 : Bool), v53 = .bool x53_24 ∧ Aside0 (laws_FnExactTimesTrie.j0 kq t765 t778 x53_24 l0_0 l1_0 t762 t767 t771 t775 = some true) ∧ Aside0 (kq ≤ k) ∧ Aside0 (Kd.R k76 76 wc w.heap.size (fun k_ => some k_ ≠ ((.slice Ao47 t767.length co47) : Value).ownBlock ∧ some k_ ≠ ((.slice Ao56 t771.length co56) : Value).ownBlock ∧ some k_ ≠ ((.slice Ao65 t775.length co65) : Value).ownBlock) (.slice Ao41 t762.length co41) t762) ∧ Aside0 (Kd.R k76 76 wc w.heap.size (fun k_ => some k_ ≠ ((.slice Ao41 t762.length co41) : Value).ownBlock ∧ some k_ ≠ ((.slice Ao56 t771.length co56) : Value).ownBlock ∧ some k_ ≠ ((.slice Ao65 t775.length co65) : Value).ownBlock) (.slice Ao47 t767.length co47) t767) ∧ Aside0 (Kd.R k76 76 wc w.heap.size (fun k_ => some k_ ≠ ((.slice Ao41 t762.length co41) : Value).ownBlock ∧ some k_ ≠ ((.slice Ao47 t767.length co47) : Value).ownBlock ∧ some k_ ≠ ((.slice Ao65 t775.length co65) : Value).ownBlock) (.slice Ao56 t771.length co56) t771) ∧ Aside0 (Kd.R k76 76 wc w.heap.size (fun k_ => some k_ ≠ ((.slice Ao41 t762.length co41) : Value).ownBlock ∧ some k_ ≠ ((.slice Ao47 t767.length co47) : Value).ownBlock ∧ some k_ ≠ ((.slice Ao56 t771.length co56) : Value).ownBlock) (.slice Ao65 t775.length co65) t775) ∧ Aside0 (wc.heap[gb752]? = some (.cells #[(.slice A0_0 l0_0.length c0_0)] 36 (0, 0))) ∧ Aside0 (wc.heap[gb753]? = some (.cells #[(.slice A1_0 l1_0.length c1_0)] 36 (0, 0))) ∧ Aside0 (wc.heap[gb766]? = some (.cells #[(.slice Ao41 t762.length co41)] 26 (0, 0))) ∧ Aside0 (wc.heap[gb770]? = some (.cells #[(.slice Ao47 t767.length co47)] 26 (0, 0))) ∧ Aside0 (wc.heap[gb774]? = some (.cells #[(.slice Ao56 t771.length co56)] 26 (0, 0))) ∧ Aside0 (wc.heap[gb779]? = some (.cells #[(.slice Ao65 t775.length co65)] 26 (0, 0))) ∧ Aside0 (Below w.heap.size w wc))
   case first =>
    have H := HC25.out
    clear HC25
    replace H := Option.bind_eq_some_iff.mp H
    obtain ⟨t780, A720, H⟩ := H
    replace H : (if t780 = true then (laws_FnExactTimesTrie.j0 k t765 t778 (t778 != t765) l0_0 l1_0 t762 t767 t771 t775) else (laws_FnExactTimesTrie.j0 k t765 t778 true l0_0 l1_0 t762 t767 t771 t775)) = some true := H
    have A72 := Aside0.mk A720
    clear A720
    by_cases c73 : t780 = true
    ·subst c73
     have H1 : (laws_FnExactTimesTrie.j0 k t765 t778 (t778 != t765) l0_0 l1_0 t762 t767 t771 t775) = some true := by rw [if_pos rfl] at H; exact H
     clear H
     have H := H1
     clear H1
     have H' := Aside0.mk H
     clear H
     have hnb74 := NB779_752.out
     have hnc74 := NB752_779.out
     have hnb75 := NB779_753.out
     have hnc75 := NB753_779.out
     have hnb76 := NB779_766.out
     have hnc76 := NB766_779.out
     have hnb77 := NB779_770.out
     have hnc77 := NB770_779.out
     have hnb78 := NB779_774.out
     have hnc78 := NB774_779.out
     have hcz79_0 : w64.cell? ⟨gb779, 0, none⟩ = some (.slice none 0 0) := (blk_cell BK779.out 0).trans rfl
     have hfz79_0 := blk_frozen BK779.out 0
     have hnb80 := NB766_752.out
     have hnc80 := NB752_766.out
     have hnb81 := NB766_753.out
     have hnc81 := NB753_766.out
     have hnb82 := NB766_770.out
     have hnc82 := NB770_766.out
     have hnb83 := NB766_774.out
     have hnc83 := NB774_766.out
     have hcz84_0 : w64.cell? ⟨gb766, 0, none⟩ = some (.slice Ao41 t762.length co41) := (blk_cell BK766.out 0).trans rfl
     have hfz84_0 := blk_frozen BK766.out 0
     go_wp2_with (first | ((with_reducible refine gate_callee (f := 16) rfl ?_); refine goesL_ (some 47) rfl rfl Tryd.func16 (by kernel_rfl) rfl #[.agg #[.slice Ao65 t775.length co65], .agg #[.slice Ao41 t762.length co41]] rfl (by (try simp only [List.map_toArray, List.map_cons, List.map_nil]); first | done | rfl | (simp only [List.length_drop, List.length_take]; rfl)) ?_; (with_reducible refine (laws_eqTrie.calls k _ _ t775 _ _ t762 true _ ?side1 ?side2 ?side3 ?side4 A72.out).mono ?_); (case side1 => refine (Kd.R_reads' (e := 76) (base := w.heap.size) (ok := fun k_ => (((((True ∧ some k_ ≠ (v757 : Value).ownBlock) ∧ some k_ ≠ (v760 : Value).ownBlock) ∧ some k_ ≠ (.slice Ao41 t762.length co41 : Value).ownBlock) ∧ some k_ ≠ (.slice Ao47 t767.length co47 : Value).ownBlock) ∧ some k_ ≠ (.slice Ao56 t771.length co56 : Value).ownBlock)) (n := t775.length) (c := co65) ?_).2.2; exact (by (with_reducible repeat (first | apply Kd.R_alloc | apply Kd.R_drewN | apply Kd.R_drew)); exact (Kd.R_mono (R_same_ (Kd.R_far (p := ⟨gb779, 0, none⟩) (Kd.R_types HO777.out BK779.out (by decide)) (fun _ hk => hk.2) (.slice Ao65 t775.length co65)) rfl) (fun _ h_ => h_.1)))); (case side2 => exact (Kd.R_reads' HO777.out).2.1); (case side3 => refine (Kd.R_reads' (e := 76) (base := w.heap.size) (ok := fun k_ => ((((some k_ ≠ (v757 : Value).ownBlock ∧ some k_ ≠ (v760 : Value).ownBlock) ∧ some k_ ≠ (.slice Ao47 t767.length co47 : Value).ownBlock) ∧ some k_ ≠ (.slice Ao56 t771.length co56 : Value).ownBlock) ∧ some k_ ≠ (.slice Ao65 t775.length co65 : Value).ownBlock)) (n := t762.length) (c := co41) ?_).2.2; exact (by (with_reducible repeat (first | apply Kd.R_alloc | apply Kd.R_drewN | apply Kd.R_drew)); exact (Kd.R_mono (R_same_ (Kd.R_far (p := ⟨gb779, 0, none⟩) (Kd.R_types HO764.out BK779.out (by decide)) (fun _ hk => hk.2) (.slice Ao65 t775.length co65)) rfl) (fun _ h_ => h_.1)))); (case side4 => exact (Kd.R_reads' HO764.out).2.1); rintro e w85 ⟨rfl, hb⟩; refine ⟨_, rfl, ?_⟩; have n0_ := Aside0.mk (Kd.R_below (by (with_reducible repeat (first | apply Kd.R_alloc | apply Kd.R_drewN | apply Kd.R_drew)); exact (Kd.R_mono (R_same_ (Kd.R_far (p := ⟨gb779, 0, none⟩) (Kd.R_types HO758.out BK779.out (by decide)) (fun _ hk => hk.2) (.slice Ao65 t775.length co65)) rfl) (fun _ h_ => h_.1))) hb); have n1_ := Aside0.mk (Kd.R_below (by (with_reducible repeat (first | apply Kd.R_alloc | apply Kd.R_drewN | apply Kd.R_drew)); exact (Kd.R_mono (R_same_ (Kd.R_far (p := ⟨gb779, 0, none⟩) (Kd.R_types HO761.out BK779.out (by decide)) (fun _ hk => hk.2) (.slice Ao65 t775.length co65)) rfl) (fun _ h_ => h_.1))) hb); have n2_ := Aside0.mk (Kd.R_below (by (with_reducible repeat (first | apply Kd.R_alloc | apply Kd.R_drewN | apply Kd.R_drew)); exact (Kd.R_mono (R_same_ (Kd.R_far (p := ⟨gb779, 0, none⟩) (Kd.R_types HO764.out BK779.out (by decide)) (fun _ hk => hk.2) (.slice Ao65 t775.length co65)) rfl) (fun _ h_ => h_.1))) hb); have n3_ := Aside0.mk (Kd.R_below (by (with_reducible repeat (first | apply Kd.R_alloc | apply Kd.R_drewN | apply Kd.R_drew)); exact (Kd.R_mono (R_same_ (Kd.R_far (p := ⟨gb779, 0, none⟩) (Kd.R_types HO769.out BK779.out (by decide)) (fun _ hk => hk.2) (.slice Ao65 t775.length co65)) rfl) (fun _ h_ => h_.1))) hb); have n4_ := Aside0.mk (Kd.R_below (by (with_reducible repeat (first | apply Kd.R_alloc | apply Kd.R_drewN | apply Kd.R_drew)); exact (Kd.R_mono (R_same_ (Kd.R_far (p := ⟨gb779, 0, none⟩) (Kd.R_types HO773.out BK779.out (by decide)) (fun _ hk => hk.2) (.slice Ao65 t775.length co65)) rfl) (fun _ h_ => h_.1))) hb); have n5_ := Aside0.mk (Kd.R_below (by (with_reducible repeat (first | apply Kd.R_alloc | apply Kd.R_drewN | apply Kd.R_drew)); exact (Kd.R_mono (R_same_ (Kd.R_far (p := ⟨gb779, 0, none⟩) (Kd.R_types HO777.out BK779.out (by decide)) (fun _ hk => hk.2) (.slice Ao65 t775.length co65)) rfl) (fun _ h_ => h_.1))) hb); have n6_ := Aside0.mk (blk_below (g := gb752) (o := .cells #[.slice A0_0 l0_0.length c0_0] 36 (0, 0)) (by (with_reducible repeat (first | refine blk_drewN ?_ _ | refine blk_drew ?_ | refine blk_alloc ?_ _)); refine blk_far ?_ NB752_779.out _; (with_reducible repeat (first | refine blk_drewN ?_ _ | refine blk_drew ?_ | refine blk_alloc ?_ _)); exact BK752.out) hb); have n7_ := Aside0.mk (blk_below (g := gb753) (o := .cells #[.slice A1_0 l1_0.length c1_0] 36 (0, 0)) (by (with_reducible repeat (first | refine blk_drewN ?_ _ | refine blk_drew ?_ | refine blk_alloc ?_ _)); refine blk_far ?_ NB753_779.out _; (with_reducible repeat (first | refine blk_drewN ?_ _ | refine blk_drew ?_ | refine blk_alloc ?_ _)); exact BK753.out) hb); have n8_ := Aside0.mk (blk_below (g := gb766) (o := .cells #[.slice Ao41 t762.length co41] 26 (0, 0)) (by (with_reducible repeat (first | refine blk_drewN ?_ _ | refine blk_drew ?_ | refine blk_alloc ?_ _)); refine blk_far ?_ NB766_779.out _; (with_reducible repeat (first | refine blk_drewN ?_ _ | refine blk_drew ?_ | refine blk_alloc ?_ _)); exact BK766.out) hb); have n9_ := Aside0.mk (blk_below (g := gb770) (o := .cells #[.slice Ao47 t767.length co47] 26 (0, 0)) (by (with_reducible repeat (first | refine blk_drewN ?_ _ | refine blk_drew ?_ | refine blk_alloc ?_ _)); refine blk_far ?_ NB770_779.out _; (with_reducible repeat (first | refine blk_drewN ?_ _ | refine blk_drew ?_ | refine blk_alloc ?_ _)); exact BK770.out) hb); have n10_ := Aside0.mk (blk_below (g := gb774) (o := .cells #[.slice Ao56 t771.length co56] 26 (0, 0)) (by (with_reducible repeat (first | refine blk_drewN ?_ _ | refine blk_drew ?_ | refine blk_alloc ?_ _)); refine blk_far ?_ NB774_779.out _; (with_reducible repeat (first | refine blk_drewN ?_ _ | refine blk_drew ?_ | refine blk_alloc ?_ _)); exact BK774.out) hb); have n11_ := Aside0.mk (blk_below (g := gb779) (o := .cells #[.slice Ao65 t775.length co65] 26 (0, 0)) (by (with_reducible repeat (first | refine blk_drewN ?_ _ | refine blk_drew ?_ | refine blk_alloc ?_ _)); refine blk_put (cs := #[.slice none 0 0]) ?_ 0 _ rfl; (with_reducible repeat (first | refine blk_drewN ?_ _ | refine blk_drew ?_ | refine blk_alloc ?_ _)); exact BK779.out) hb); have n12_ := Aside0.mk (below_step (by repeat (first | (with_reducible first | exact HB.out | apply below_alloc | apply pw_below_drewN | apply below_drew1 | refine below_set ?_ GE752.out | refine below_set ?_ GE753.out | refine below_set ?_ GE766.out | refine below_set ?_ GE770.out | refine below_set ?_ GE774.out | refine below_set ?_ GE779.out) | exact HB.out)) hb); clear HO758; clear HO761; clear HO764; clear HO769; clear HO773; clear HO777; clear BK752; clear BK753; clear BK766; clear BK770; clear BK774; clear BK779; clear HB; have HO758 := n0_; have HO761 := n1_; have HO764 := n2_; have HO769 := n3_; have HO773 := n4_; have HO777 := n5_; have BK752 := n6_; have BK753 := n7_; have BK766 := n8_; have BK770 := n9_; have BK774 := n10_; have BK779 := n11_; have HB := n12_; clear n0_ n1_ n2_ n3_ n4_ n5_ n6_ n7_ n8_ n9_ n10_ n11_ n12_; (try clear hb); (try clear hb2); (try clear hk); (try clear hi)))
     go_meet
     case rel => exact ⟨_, ((t778 != t765)), (by first | rfl | (simp; done) | (simp [*]; done)), H', ⟨by first | omega | exact Nat.le_refl _⟩, ⟨by (with_reducible repeat (first | apply Kd.R_alloc | apply Kd.R_drewN | apply Kd.R_drew)); exact Kd.R_mono HO764.out (fun _ hk => ⟨hk.1.1.2, ⟨hk.1.2, hk.2⟩⟩)⟩, ⟨by (with_reducible repeat (first | apply Kd.R_alloc | apply Kd.R_drewN | apply Kd.R_drew)); exact Kd.R_mono HO769.out (fun _ hk => ⟨hk.1.1.2, ⟨hk.1.2, hk.2⟩⟩)⟩, ⟨by (with_reducible repeat (first | apply Kd.R_alloc | apply Kd.R_drewN | apply Kd.R_drew)); exact Kd.R_mono HO773.out (fun _ hk => ⟨hk.1.1.2, ⟨hk.1.2, hk.2⟩⟩)⟩, ⟨by (with_reducible repeat (first | apply Kd.R_alloc | apply Kd.R_drewN | apply Kd.R_drew)); exact Kd.R_mono HO777.out (fun _ hk => ⟨hk.1.1.2, ⟨hk.1.2, hk.2⟩⟩)⟩, ⟨by (with_reducible repeat (first | refine blk_drewN ?_ _ | refine blk_drew ?_ | refine blk_alloc ?_ _)); exact BK752.out⟩, ⟨by (with_reducible repeat (first | refine blk_drewN ?_ _ | refine blk_drew ?_ | refine blk_alloc ?_ _)); exact BK753.out⟩, ⟨by (with_reducible repeat (first | refine blk_drewN ?_ _ | refine blk_drew ?_ | refine blk_alloc ?_ _)); exact BK766.out⟩, ⟨by (with_reducible repeat (first | refine blk_drewN ?_ _ | refine blk_drew ?_ | refine blk_alloc ?_ _)); exact BK770.out⟩, ⟨by (with_reducible repeat (first | refine blk_drewN ?_ _ | refine blk_drew ?_ | refine blk_alloc ?_ _)); exact BK774.out⟩, ⟨by (with_reducible repeat (first | refine blk_drewN ?_ _ | refine blk_drew ?_ | refine blk_alloc ?_ _)); exact BK779.out⟩, ⟨by repeat (first | (with_reducible first | exact HB.out | apply below_alloc | apply pw_below_drewN | apply below_drew1 | refine below_set ?_ GE752.out | refine below_set ?_ GE753.out | refine below_set ?_ GE766.out | refine below_set ?_ GE770.out | refine below_set ?_ GE774.out | refine below_set ?_ GE779.out) | exact HB.out)⟩⟩
    ·replace c73 := Bool.eq_false_iff.mpr c73
     subst c73
     have H1 : (laws_FnExactTimesTrie.j0 k t765 t778 true l0_0 l1_0 t762 t767 t771 t775) = some true := by rw [if_neg (show ¬ (false = true) by decide)] at H; exact H
     exact absurd H1 (by cases k <;> simp [laws_FnExactTimesTrie.j0])
   case rest =>
    clear HC25
    try clear c1
    try clear c2
    try clear p2
    try clear c3
    try clear c4
    try clear c5
    try clear c6
    try clear c7
    try clear c8
    try clear c9
    try clear c16
    try clear c23
    try clear c33
    try clear c34
    try clear c43
    try clear c48
    try clear c49
    try clear c50
    try clear c52
    try clear c57
    try clear c58
    try clear c59
    try clear c60
    try clear c66
    try clear c67
    try clear c68
    try clear c69
    try clear c70
    try clear c73
    try clear c74
    try clear c75
    try clear c76
    try clear c77
    try clear c78
    try clear c80
    try clear c81
    try clear c82
    try clear c83
    try clear c86
    try clear c87
    try clear c88
    try clear c89
    try clear c90
    try clear c92
    try clear c93
    try clear c94
    try clear c95
    try clear hcz44_0
    try clear hcz51_0
    try clear hcz53_0
    try clear hcz61_0
    try clear hcz62_0
    try clear hcz71_0
    try clear hcz79_0
    try clear hcz84_0
    try clear hcz91_0
    try clear hcz96_0
    try clear hfz44_0
    try clear hfz51_0
    try clear hfz53_0
    try clear hfz61_0
    try clear hfz62_0
    try clear hfz71_0
    try clear hfz79_0
    try clear hfz84_0
    try clear hfz91_0
    try clear hfz96_0
    obtain ⟨kq, x53_24, rfl, HA, HJ24, HO_767000, HO_771000, HO_775000, HO_780000, BK752, BK753, BK766, BK770, BK774, BK779, HB⟩ := hcut
    cases kq with
    | zero => exact absurd HA.out (by simp [laws_FnExactTimesTrie.j0])
    | succ kj24 =>
     have H := HA.out
     clear HA
     simp only [laws_FnExactTimesTrie.j0] at H
     by_cases c98 : x53_24 = true
     ·subst c98
      have H1 : (some false) = some true := by rw [if_pos rfl] at H; exact H
      exact absurd H1 (by simp)
     ·replace c98 := Bool.eq_false_iff.mpr c98
      subst c98
      have H1 : ((laws_toTrie.f kj24 l0_0).bind fun t781 => ((laws_eqTrie.f kj24 t767 t781).bind fun t784 => (if t784 = true then ((laws_toTrie.f kj24 l1_0).bind fun t785 => ((laws_eqTrie.f kj24 t771 t785).bind fun t788 => (if t788 = true then ((laws_markTrie.f kj24 t767 1).bind fun bt789 => ((laws_markTrie.f kj24 t771 bt789.1).bind fun bt791 => (if bt791.1 < 0 then (laws_FnExactTimesTrie.j1 kj24 t765 true l0_0 l1_0 t762 t775) else ((laws_eqTrie.f kj24 t775 t762).bind fun t793 => (if t793 = true then (laws_FnExactTimesTrie.j1 kj24 t765 (t778 != t765) l0_0 l1_0 t762 t775) else (laws_FnExactTimesTrie.j1 kj24 t765 true l0_0 l1_0 t762 t775)))))) else (some false)))) else (some false)))) = some true := by rw [if_neg (show ¬ (false = true) by decide)] at H; exact H
      clear H
      have H := H1
      clear H1
      replace H := Option.bind_eq_some_iff.mp H
      obtain ⟨t781, A990, H⟩ := H
      replace H : ((laws_eqTrie.f kj24 t767 t781).bind fun t784 => (if t784 = true then ((laws_toTrie.f kj24 l1_0).bind fun t785 => ((laws_eqTrie.f kj24 t771 t785).bind fun t788 => (if t788 = true then ((laws_markTrie.f kj24 t767 1).bind fun bt789 => ((laws_markTrie.f kj24 t771 bt789.1).bind fun bt791 => (if bt791.1 < 0 then (laws_FnExactTimesTrie.j1 kj24 t765 true l0_0 l1_0 t762 t775) else ((laws_eqTrie.f kj24 t775 t762).bind fun t793 => (if t793 = true then (laws_FnExactTimesTrie.j1 kj24 t765 (t778 != t765) l0_0 l1_0 t762 t775) else (laws_FnExactTimesTrie.j1 kj24 t765 true l0_0 l1_0 t762 t775)))))) else (some false)))) else (some false))) = some true := H
      have A99 := Aside0.mk A990
      clear A990
      replace H := Option.bind_eq_some_iff.mp H
      obtain ⟨t784, A1000, H⟩ := H
      replace H : (if t784 = true then ((laws_toTrie.f kj24 l1_0).bind fun t785 => ((laws_eqTrie.f kj24 t771 t785).bind fun t788 => (if t788 = true then ((laws_markTrie.f kj24 t767 1).bind fun bt789 => ((laws_markTrie.f kj24 t771 bt789.1).bind fun bt791 => (if bt791.1 < 0 then (laws_FnExactTimesTrie.j1 kj24 t765 true l0_0 l1_0 t762 t775) else ((laws_eqTrie.f kj24 t775 t762).bind fun t793 => (if t793 = true then (laws_FnExactTimesTrie.j1 kj24 t765 (t778 != t765) l0_0 l1_0 t762 t775) else (laws_FnExactTimesTrie.j1 kj24 t765 true l0_0 l1_0 t762 t775)))))) else (some false)))) else (some false)) = some true := H
      have A100 := Aside0.mk A1000
      clear A1000
      by_cases c101 : t784 = true
      ·subst c101
       have H1 : ((laws_toTrie.f kj24 l1_0).bind fun t785 => ((laws_eqTrie.f kj24 t771 t785).bind fun t788 => (if t788 = true then ((laws_markTrie.f kj24 t767 1).bind fun bt789 => ((laws_markTrie.f kj24 t771 bt789.1).bind fun bt791 => (if bt791.1 < 0 then (laws_FnExactTimesTrie.j1 kj24 t765 true l0_0 l1_0 t762 t775) else ((laws_eqTrie.f kj24 t775 t762).bind fun t793 => (if t793 = true then (laws_FnExactTimesTrie.j1 kj24 t765 (t778 != t765) l0_0 l1_0 t762 t775) else (laws_FnExactTimesTrie.j1 kj24 t765 true l0_0 l1_0 t762 t775)))))) else (some false)))) = some true := by rw [if_pos rfl] at H; exact H
       clear H
       have H := H1
       clear H1
       replace H := Option.bind_eq_some_iff.mp H
       obtain ⟨t785, A1020, H⟩ := H
       replace H : ((laws_eqTrie.f kj24 t771 t785).bind fun t788 => (if t788 = true then ((laws_markTrie.f kj24 t767 1).bind fun bt789 => ((laws_markTrie.f kj24 t771 bt789.1).bind fun bt791 => (if bt791.1 < 0 then (laws_FnExactTimesTrie.j1 kj24 t765 true l0_0 l1_0 t762 t775) else ((laws_eqTrie.f kj24 t775 t762).bind fun t793 => (if t793 = true then (laws_FnExactTimesTrie.j1 kj24 t765 (t778 != t765) l0_0 l1_0 t762 t775) else (laws_FnExactTimesTrie.j1 kj24 t765 true l0_0 l1_0 t762 t775)))))) else (some false))) = some true := H
       have A102 := Aside0.mk A1020
       clear A1020
       replace H := Option.bind_eq_some_iff.mp H
       obtain ⟨t788, A1030, H⟩ := H
       replace H : (if t788 = true then ((laws_markTrie.f kj24 t767 1).bind fun bt789 => ((laws_markTrie.f kj24 t771 bt789.1).bind fun bt791 => (if bt791.1 < 0 then (laws_FnExactTimesTrie.j1 kj24 t765 true l0_0 l1_0 t762 t775) else ((laws_eqTrie.f kj24 t775 t762).bind fun t793 => (if t793 = true then (laws_FnExactTimesTrie.j1 kj24 t765 (t778 != t765) l0_0 l1_0 t762 t775) else (laws_FnExactTimesTrie.j1 kj24 t765 true l0_0 l1_0 t762 t775)))))) else (some false)) = some true := H
       have A103 := Aside0.mk A1030
       clear A1030
       by_cases c104 : t788 = true
       ·subst c104
        have H1 : ((laws_markTrie.f kj24 t767 1).bind fun bt789 => ((laws_markTrie.f kj24 t771 bt789.1).bind fun bt791 => (if bt791.1 < 0 then (laws_FnExactTimesTrie.j1 kj24 t765 true l0_0 l1_0 t762 t775) else ((laws_eqTrie.f kj24 t775 t762).bind fun t793 => (if t793 = true then (laws_FnExactTimesTrie.j1 kj24 t765 (t778 != t765) l0_0 l1_0 t762 t775) else (laws_FnExactTimesTrie.j1 kj24 t765 true l0_0 l1_0 t762 t775)))))) = some true := by rw [if_pos rfl] at H; exact H
        clear H
        have H := H1
        clear H1
        replace H := Option.bind_eq_some_iff.mp H
        obtain ⟨⟨t789, t790⟩, A1050, H⟩ := H
        replace H : ((laws_markTrie.f kj24 t771 t789).bind fun bt791 => (if bt791.1 < 0 then (laws_FnExactTimesTrie.j1 kj24 t765 true l0_0 l1_0 t762 t775) else ((laws_eqTrie.f kj24 t775 t762).bind fun t793 => (if t793 = true then (laws_FnExactTimesTrie.j1 kj24 t765 (t778 != t765) l0_0 l1_0 t762 t775) else (laws_FnExactTimesTrie.j1 kj24 t765 true l0_0 l1_0 t762 t775))))) = some true := H
        have A105 := Aside0.mk A1050
        clear A1050
        replace H := Option.bind_eq_some_iff.mp H
        obtain ⟨⟨t791, t792⟩, A1060, H⟩ := H
        replace H : (if t791 < 0 then (laws_FnExactTimesTrie.j1 kj24 t765 true l0_0 l1_0 t762 t775) else ((laws_eqTrie.f kj24 t775 t762).bind fun t793 => (if t793 = true then (laws_FnExactTimesTrie.j1 kj24 t765 (t778 != t765) l0_0 l1_0 t762 t775) else (laws_FnExactTimesTrie.j1 kj24 t765 true l0_0 l1_0 t762 t775)))) = some true := H
        have A106 := Aside0.mk A1060
        clear A1060
        have HC107 := Aside0.mk H
        clear H
        try go_wp2
        have n0_ := Aside0.mk (Kd.R_drew HO_767000.out)
        have n1_ := Aside0.mk (Kd.R_drew HO_771000.out)
        have n2_ := Aside0.mk (Kd.R_drew HO_775000.out)
        have n3_ := Aside0.mk (Kd.R_drew HO_780000.out)
        have n4_ := Aside0.mk (blk_drew BK752.out)
        have n5_ := Aside0.mk (blk_drew BK753.out)
        have n6_ := Aside0.mk (blk_drew BK766.out)
        have n7_ := Aside0.mk (blk_drew BK770.out)
        have n8_ := Aside0.mk (blk_drew BK774.out)
        have n9_ := Aside0.mk (blk_drew BK779.out)
        have n10_ := Aside0.mk (below_drew1 HB.out)
        revert n0_ n1_ n2_ n3_ n4_ n5_ n6_ n7_ n8_ n9_ n10_
        clear HO_767000 HO_771000 HO_775000 HO_780000 BK752 BK753 BK766 BK770 BK774 BK779 HB
        intro HO_767000 HO_771000 HO_775000 HO_780000 BK752 BK753 BK766 BK770 BK774 BK779 HB
        refine start_ (n := 5) (S := fun w' => w'.cell? ⟨gb770, 0, none⟩ = some (.slice Ao47 t767.length co47) ∧ w'.cell? ⟨gb752, 0, none⟩ = some (.slice A0_0 l0_0.length c0_0)) (ds := []) #[false, false, false, false, false] (by kernel_rfl) rfl rfl ⟨(blk_cell BK770.out 0).trans rfl, (blk_cell BK752.out 0).trans rfl⟩ (fun hHeld => ?_)
        generalize wc.drew = w108 at HO_767000 HO_771000 HO_775000 HO_780000 BK752 BK753 BK766 BK770 BK774 BK779 HB hHeld ⊢
        refine take_ (i := 0) (N := some 54) (v := ?_) (a' := ?_) #[true, false, false, false, false] rfl rfl (by kernel_rfl) (fun _ _ _ h => h) (Or.inl ⟨by rfl, ?_⟩) hHeld ?_ ?_
        rotate_left
        ·rintro w' ⟨s0, s1⟩
         go_simp
         with_reducible rfl
        rotate_left
        ·simp only [Act.put, List.setIfInBounds_toArray, List.set_cons_zero, List.set_cons_succ, i64_w, i32_w]
         rfl
        refine take_ (i := 1) (N := some 55) (v := ?_) (a' := ?_) #[true, true, false, false, false] rfl rfl (by kernel_rfl) (fun _ _ _ h => h) (Or.inl ⟨by rfl, ?_⟩) hHeld ?_ ?_
        rotate_left
        ·rintro w' ⟨s0, s1⟩
         go_simp
         with_reducible rfl
        rotate_left
        ·simp only [Act.put, List.setIfInBounds_toArray, List.set_cons_zero, List.set_cons_succ, i64_w, i32_w]
         rfl
        refine one_ (i := 2) (N := some 56) #[true, true, true, false, false] rfl rfl (by kernel_rfl) (by decide) (fun K hK => ?_)
        refine goes_ Tryd.func23 (by kernel_rfl) rfl #[.agg #[.slice A0_0 l0_0.length c0_0]] (by rfl) rfl rfl (by (try simp only [List.map_toArray, List.map_cons, List.map_nil]); first | done | rfl | (simp only [List.length_drop, List.length_take]; rfl)) ?_
        with_reducible refine (laws_toTrie.calls kj24 _ _ l0_0 t781 _ ?side1 ?side2 A99.out).mono ?_
        (case side1 => exact (Kd.C_below HR0_0.out HB.out))
        (case side2 => exact HC0_0.out)
        rintro e w109 ⟨v782, rfl, ho0, hb⟩
        refine ⟨_, rfl, ?_⟩
        have n0_ := Aside0.mk (Kd.R_elder' HO_767000.out (Kd.R_base ho0) hb)
        have n1_ := Aside0.mk (Kd.R_elder' HO_771000.out (Kd.R_base ho0) hb)
        have n2_ := Aside0.mk (Kd.R_elder' HO_775000.out (Kd.R_base ho0) hb)
        have n3_ := Aside0.mk (Kd.R_elder' HO_780000.out (Kd.R_base ho0) hb)
        have n4_ := Aside0.mk (Kd.R_lower (Kd.R_new' (Kd.R_new' (Kd.R_new' (Kd.R_new' ho0 (Kd.R_lt HO_767000.out)) (Kd.R_lt HO_771000.out)) (Kd.R_lt HO_775000.out)) (Kd.R_lt HO_780000.out)) (below_size HB.out))
        have n5_ := Aside0.mk (blk_below BK752.out hb)
        have n6_ := Aside0.mk (blk_below BK753.out hb)
        have n7_ := Aside0.mk (blk_below BK766.out hb)
        have n8_ := Aside0.mk (blk_below BK770.out hb)
        have n9_ := Aside0.mk (blk_below BK774.out hb)
        have n10_ := Aside0.mk (blk_below BK779.out hb)
        have n11_ := Aside0.mk (below_step HB.out hb)
        revert n0_ n1_ n2_ n3_ n4_ n5_ n6_ n7_ n8_ n9_ n10_ n11_
        clear HO_767000 HO_771000 HO_775000 HO_780000 BK752 BK753 BK766 BK770 BK774 BK779 HB
        intro HO_767000 HO_771000 HO_775000 HO_780000 HO783 BK752 BK753 BK766 BK770 BK774 BK779 HB
        (try clear hb)
        (try clear hb2)
        (try clear hk)
        (try clear hi)
        (try clear ho0)
        obtain ⟨Ao110, co110, eo110⟩ := Kd.R_slice HO783.out
        (first | subst eo110 | (injection eo110 with f1_ f2_ f3_; have f4_ := f1_.symm; have f5_ := f3_.symm; clear f1_ f2_ f3_; subst f4_; subst f5_))
        refine hK.out _ _ ⟨(blk_cell BK770.out 0).trans rfl, (blk_cell BK752.out 0).trans rfl⟩ (fun hHeld => ?_)
        clear hK K
        refine norm_ (a' := ?_) ?_ ?_
        rotate_left
        ·show Act.put _ (some 56) _ = _
         simp only [Act.put, List.setIfInBounds_toArray, List.set_cons_zero, List.set_cons_succ, i64_w, i32_w]
         rfl
        refine one_ (i := 3) (N := some 57) #[true, true, true, true, false] rfl rfl (by kernel_rfl) (by decide) (fun K hK => ?_)
        refine goes_ Tryd.func16 (by kernel_rfl) rfl #[.agg #[.slice Ao47 t767.length co47], .agg #[.slice Ao110 t781.length co110]] (by rfl) rfl rfl (by (try simp only [List.map_toArray, List.map_cons, List.map_nil]); first | done | rfl | (simp only [List.length_drop, List.length_take]; rfl)) ?_
        with_reducible refine (laws_eqTrie.calls kj24 _ _ t767 _ _ t781 true _ ?side1 ?side2 ?side3 ?side4 A100.out).mono ?_
        (case side1 => exact (Kd.R_reads' HO_771000.out).2.2)
        (case side2 => exact (Kd.R_reads' HO_771000.out).2.1)
        (case side3 => exact (Kd.R_reads' HO783.out).2.2)
        (case side4 => exact (Kd.R_reads' HO783.out).2.1)
        rintro e w111 ⟨rfl, hb⟩
        refine ⟨_, rfl, ?_⟩
        have n0_ := Aside0.mk (Kd.R_below HO_767000.out hb)
        have n1_ := Aside0.mk (Kd.R_below HO_771000.out hb)
        have n2_ := Aside0.mk (Kd.R_below HO_775000.out hb)
        have n3_ := Aside0.mk (Kd.R_below HO_780000.out hb)
        have n4_ := Aside0.mk (Kd.R_below HO783.out hb)
        have n5_ := Aside0.mk (blk_below BK752.out hb)
        have n6_ := Aside0.mk (blk_below BK753.out hb)
        have n7_ := Aside0.mk (blk_below BK766.out hb)
        have n8_ := Aside0.mk (blk_below BK770.out hb)
        have n9_ := Aside0.mk (blk_below BK774.out hb)
        have n10_ := Aside0.mk (blk_below BK779.out hb)
        have n11_ := Aside0.mk (below_step HB.out hb)
        revert n0_ n1_ n2_ n3_ n4_ n5_ n6_ n7_ n8_ n9_ n10_ n11_
        clear HO_767000 HO_771000 HO_775000 HO_780000 HO783 BK752 BK753 BK766 BK770 BK774 BK779 HB
        intro HO_767000 HO_771000 HO_775000 HO_780000 HO783 BK752 BK753 BK766 BK770 BK774 BK779 HB
        (try clear hb)
        (try clear hb2)
        (try clear hk)
        (try clear hi)
        refine hK.out _ _ ⟨(blk_cell BK770.out 0).trans rfl, (blk_cell BK752.out 0).trans rfl⟩ (fun hHeld => ?_)
        clear hK K
        refine norm_ (a' := ?_) ?_ ?_
        rotate_left
        ·show Act.put _ (some 57) _ = _
         simp only [Act.put, List.setIfInBounds_toArray, List.set_cons_zero, List.set_cons_succ, i64_w, i32_w]
         rfl
        refine pure_ (i := 4) (N := some 58) (v := ?_) (a' := ?_) #[true, true, true, true, true] rfl rfl (by kernel_rfl) (fun _ _ _ h => h) (Or.inl ⟨by rfl, ?_⟩) ?_ ?_
        rotate_left
        ·intro w'
         go_simp
         with_reducible rfl
        rotate_left
        ·simp only [Act.put, List.setIfInBounds_toArray, List.set_cons_zero, List.set_cons_succ, i64_w, i32_w]
         rfl
        refine done_ (by kernel_rfl) ?_
        try go_wp2
        have n0_ := Aside0.mk (Kd.R_drew HO_767000.out)
        have n1_ := Aside0.mk (Kd.R_drew HO_771000.out)
        have n2_ := Aside0.mk (Kd.R_drew HO_775000.out)
        have n3_ := Aside0.mk (Kd.R_drew HO_780000.out)
        have n4_ := Aside0.mk (Kd.R_drew HO783.out)
        have n5_ := Aside0.mk (blk_drew BK752.out)
        have n6_ := Aside0.mk (blk_drew BK753.out)
        have n7_ := Aside0.mk (blk_drew BK766.out)
        have n8_ := Aside0.mk (blk_drew BK770.out)
        have n9_ := Aside0.mk (blk_drew BK774.out)
        have n10_ := Aside0.mk (blk_drew BK779.out)
        have n11_ := Aside0.mk (below_drew1 HB.out)
        revert n0_ n1_ n2_ n3_ n4_ n5_ n6_ n7_ n8_ n9_ n10_ n11_
        clear HO_767000 HO_771000 HO_775000 HO_780000 HO783 BK752 BK753 BK766 BK770 BK774 BK779 HB
        intro HO_767000 HO_771000 HO_775000 HO_780000 HO783 BK752 BK753 BK766 BK770 BK774 BK779 HB
        refine start_ (n := 5) (S := fun w' => w'.cell? ⟨gb774, 0, none⟩ = some (.slice Ao56 t771.length co56) ∧ w'.cell? ⟨gb753, 0, none⟩ = some (.slice A1_0 l1_0.length c1_0)) (ds := []) #[false, false, false, false, false] (by kernel_rfl) rfl rfl ⟨(blk_cell BK774.out 0).trans rfl, (blk_cell BK753.out 0).trans rfl⟩ (fun hHeld => ?_)
        generalize w111.drew = w112 at HO_767000 HO_771000 HO_775000 HO_780000 HO783 BK752 BK753 BK766 BK770 BK774 BK779 HB hHeld ⊢
        refine take_ (i := 0) (N := some 59) (v := ?_) (a' := ?_) #[true, false, false, false, false] rfl rfl (by kernel_rfl) (fun _ _ _ h => h) (Or.inl ⟨by rfl, ?_⟩) hHeld ?_ ?_
        rotate_left
        ·rintro w' ⟨s0, s1⟩
         go_simp
         with_reducible rfl
        rotate_left
        ·simp only [Act.put, List.setIfInBounds_toArray, List.set_cons_zero, List.set_cons_succ, i64_w, i32_w]
         rfl
        refine take_ (i := 1) (N := some 60) (v := ?_) (a' := ?_) #[true, true, false, false, false] rfl rfl (by kernel_rfl) (fun _ _ _ h => h) (Or.inl ⟨by rfl, ?_⟩) hHeld ?_ ?_
        rotate_left
        ·rintro w' ⟨s0, s1⟩
         go_simp
         with_reducible rfl
        rotate_left
        ·simp only [Act.put, List.setIfInBounds_toArray, List.set_cons_zero, List.set_cons_succ, i64_w, i32_w]
         rfl
        refine one_ (i := 2) (N := some 61) #[true, true, true, false, false] rfl rfl (by kernel_rfl) (by decide) (fun K hK => ?_)
        refine goes_ Tryd.func23 (by kernel_rfl) rfl #[.agg #[.slice A1_0 l1_0.length c1_0]] (by rfl) rfl rfl (by (try simp only [List.map_toArray, List.map_cons, List.map_nil]); first | done | rfl | (simp only [List.length_drop, List.length_take]; rfl)) ?_
        with_reducible refine (laws_toTrie.calls kj24 _ _ l1_0 t785 _ ?side1 ?side2 A102.out).mono ?_
        (case side1 => exact (Kd.C_below HR1_0.out HB.out))
        (case side2 => exact HC1_0.out)
        rintro e w113 ⟨v786, rfl, ho0, hb⟩
        refine ⟨_, rfl, ?_⟩
        have n0_ := Aside0.mk (Kd.R_elder' HO_767000.out (Kd.R_base ho0) hb)
        have n1_ := Aside0.mk (Kd.R_elder' HO_771000.out (Kd.R_base ho0) hb)
        have n2_ := Aside0.mk (Kd.R_elder' HO_775000.out (Kd.R_base ho0) hb)
        have n3_ := Aside0.mk (Kd.R_elder' HO_780000.out (Kd.R_base ho0) hb)
        have n4_ := Aside0.mk (Kd.R_elder' HO783.out (Kd.R_base ho0) hb)
        have n5_ := Aside0.mk (Kd.R_lower (Kd.R_new' (Kd.R_new' (Kd.R_new' (Kd.R_new' (Kd.R_new' ho0 (Kd.R_lt HO_767000.out)) (Kd.R_lt HO_771000.out)) (Kd.R_lt HO_775000.out)) (Kd.R_lt HO_780000.out)) (Kd.R_lt HO783.out)) (below_size HB.out))
        have n6_ := Aside0.mk (blk_below BK752.out hb)
        have n7_ := Aside0.mk (blk_below BK753.out hb)
        have n8_ := Aside0.mk (blk_below BK766.out hb)
        have n9_ := Aside0.mk (blk_below BK770.out hb)
        have n10_ := Aside0.mk (blk_below BK774.out hb)
        have n11_ := Aside0.mk (blk_below BK779.out hb)
        have n12_ := Aside0.mk (below_step HB.out hb)
        revert n0_ n1_ n2_ n3_ n4_ n5_ n6_ n7_ n8_ n9_ n10_ n11_ n12_
        clear HO_767000 HO_771000 HO_775000 HO_780000 HO783 BK752 BK753 BK766 BK770 BK774 BK779 HB
        intro HO_767000 HO_771000 HO_775000 HO_780000 HO783 HO787 BK752 BK753 BK766 BK770 BK774 BK779 HB
        (try clear hb)
        (try clear hb2)
        (try clear hk)
        (try clear hi)
        (try clear ho0)
        obtain ⟨Ao114, co114, eo114⟩ := Kd.R_slice HO787.out
        (first | subst eo114 | (injection eo114 with f1_ f2_ f3_; have f4_ := f1_.symm; have f5_ := f3_.symm; clear f1_ f2_ f3_; subst f4_; subst f5_))
        refine hK.out _ _ ⟨(blk_cell BK774.out 0).trans rfl, (blk_cell BK753.out 0).trans rfl⟩ (fun hHeld => ?_)
        clear hK K
        refine norm_ (a' := ?_) ?_ ?_
        rotate_left
        ·show Act.put _ (some 61) _ = _
         simp only [Act.put, List.setIfInBounds_toArray, List.set_cons_zero, List.set_cons_succ, i64_w, i32_w]
         rfl
        refine one_ (i := 3) (N := some 62) #[true, true, true, true, false] rfl rfl (by kernel_rfl) (by decide) (fun K hK => ?_)
        refine goes_ Tryd.func16 (by kernel_rfl) rfl #[.agg #[.slice Ao56 t771.length co56], .agg #[.slice Ao114 t785.length co114]] (by rfl) rfl rfl (by (try simp only [List.map_toArray, List.map_cons, List.map_nil]); first | done | rfl | (simp only [List.length_drop, List.length_take]; rfl)) ?_
        with_reducible refine (laws_eqTrie.calls kj24 _ _ t771 _ _ t785 true _ ?side1 ?side2 ?side3 ?side4 A103.out).mono ?_
        (case side1 => exact (Kd.R_reads' HO_775000.out).2.2)
        (case side2 => exact (Kd.R_reads' HO_775000.out).2.1)
        (case side3 => exact (Kd.R_reads' HO787.out).2.2)
        (case side4 => exact (Kd.R_reads' HO787.out).2.1)
        rintro e w115 ⟨rfl, hb⟩
        refine ⟨_, rfl, ?_⟩
        have n0_ := Aside0.mk (Kd.R_below HO_767000.out hb)
        have n1_ := Aside0.mk (Kd.R_below HO_771000.out hb)
        have n2_ := Aside0.mk (Kd.R_below HO_775000.out hb)
        have n3_ := Aside0.mk (Kd.R_below HO_780000.out hb)
        have n4_ := Aside0.mk (Kd.R_below HO783.out hb)
        have n5_ := Aside0.mk (Kd.R_below HO787.out hb)
        have n6_ := Aside0.mk (blk_below BK752.out hb)
        have n7_ := Aside0.mk (blk_below BK753.out hb)
        have n8_ := Aside0.mk (blk_below BK766.out hb)
        have n9_ := Aside0.mk (blk_below BK770.out hb)
        have n10_ := Aside0.mk (blk_below BK774.out hb)
        have n11_ := Aside0.mk (blk_below BK779.out hb)
        have n12_ := Aside0.mk (below_step HB.out hb)
        revert n0_ n1_ n2_ n3_ n4_ n5_ n6_ n7_ n8_ n9_ n10_ n11_ n12_
        clear HO_767000 HO_771000 HO_775000 HO_780000 HO783 HO787 BK752 BK753 BK766 BK770 BK774 BK779 HB
        intro HO_767000 HO_771000 HO_775000 HO_780000 HO783 HO787 BK752 BK753 BK766 BK770 BK774 BK779 HB
        (try clear hb)
        (try clear hb2)
        (try clear hk)
        (try clear hi)
        refine hK.out _ _ ⟨(blk_cell BK774.out 0).trans rfl, (blk_cell BK753.out 0).trans rfl⟩ (fun hHeld => ?_)
        clear hK K
        refine norm_ (a' := ?_) ?_ ?_
        rotate_left
        ·show Act.put _ (some 62) _ = _
         simp only [Act.put, List.setIfInBounds_toArray, List.set_cons_zero, List.set_cons_succ, i64_w, i32_w]
         rfl
        refine pure_ (i := 4) (N := some 63) (v := ?_) (a' := ?_) #[true, true, true, true, true] rfl rfl (by kernel_rfl) (fun _ _ _ h => h) (Or.inl ⟨by rfl, ?_⟩) ?_ ?_
        rotate_left
        ·intro w'
         go_simp
         with_reducible rfl
        rotate_left
        ·simp only [Act.put, List.setIfInBounds_toArray, List.set_cons_zero, List.set_cons_succ, i64_w, i32_w]
         rfl
        refine done_ (by kernel_rfl) ?_
        have hnb116 := NB770_752.out
        have hnc116 := NB752_770.out
        have hnb117 := NB770_753.out
        have hnc117 := NB753_770.out
        have hnb118 := NB770_766.out
        have hnc118 := NB766_770.out
        have hnb119 := NB770_774.out
        have hnc119 := NB774_770.out
        have hnb120 := NB770_779.out
        have hnc120 := NB779_770.out
        have hcz121_0 : w115.cell? ⟨gb770, 0, none⟩ = some (.slice Ao47 t767.length co47) := (blk_cell BK770.out 0).trans rfl
        have hfz121_0 := blk_frozen BK770.out 0
        go_upto_region 21 with (first | ((with_reducible refine gate_callee (f := 19) rfl ?_); refine goesL_ (some 66) rfl rfl Tryd.func19 (by kernel_rfl) rfl #[.agg #[.slice Ao47 t767.length co47], .int .i64 1] rfl (by (try simp only [List.map_toArray, List.map_cons, List.map_nil]); first | done | rfl | (simp only [List.length_drop, List.length_take]; rfl)) ?_; (with_reducible refine (laws_markTrie.calls kj24 (fun k_ => some k_ = (.slice Ao47 t767.length co47 : Value).ownBlock) (.slice Ao47 t767.length co47) t767 1 t789 t790 w _ ?side1 ?side2 A105.out).mono ?_); (case side1 => repeat (first | (with_reducible first | exact HB.out | apply below_alloc | apply pw_below_drewN | apply below_drew1 | refine below_set ?_ GE752.out | refine below_set ?_ GE753.out | refine below_set ?_ GE766.out | refine below_set ?_ GE770.out | refine below_set ?_ GE774.out | refine below_set ?_ GE779.out) | exact HB.out)); (case side2 => exact Kd.R_tight rfl HO_771000.out); rintro e w122 ⟨rfl, hy0, hb, hkp⟩; refine ⟨_, rfl, ?_⟩; have n0_ := Aside0.mk (Kd.R_mono (ok' := fun k_ => some k_ ≠ (.slice Ao47 t767.length co47 : Value).ownBlock ∧ some k_ ≠ (.slice Ao56 t771.length co56 : Value).ownBlock ∧ some k_ ≠ (.slice Ao65 t775.length co65 : Value).ownBlock ∧ some k_ ≠ (.slice Ao110 t781.length co110 : Value).ownBlock ∧ some k_ ≠ (.slice Ao114 t785.length co114 : Value).ownBlock) (Kd.R_keptB (HO_767000.out) hkp (fun k_ hk_ hs_ => (hk_.1.1.1) hs_)) (fun k_ hk_ => ⟨hk_.1.1.1.1, hk_.1.1.1.2.1, hk_.1.1.1.2.2, hk_.1.1.2, hk_.1.2⟩)); have n1_ := Aside0.mk (Kd.R_reok rfl hy0 (fun k_ e_ => HO_771000.out.1 k_ e_)); have n2_ := Aside0.mk (Kd.R_mono (ok' := fun k_ => some k_ ≠ (.slice Ao41 t762.length co41 : Value).ownBlock ∧ some k_ ≠ (.slice Ao47 t767.length co47 : Value).ownBlock ∧ some k_ ≠ (.slice Ao65 t775.length co65 : Value).ownBlock ∧ some k_ ≠ (.slice Ao110 t781.length co110 : Value).ownBlock ∧ some k_ ≠ (.slice Ao114 t785.length co114 : Value).ownBlock) (Kd.R_keptB (HO_775000.out) hkp (fun k_ hk_ hs_ => (hk_.1.1.2.1) hs_)) (fun k_ hk_ => ⟨hk_.1.1.1.1, hk_.1.1.1.2.1, hk_.1.1.1.2.2, hk_.1.1.2, hk_.1.2⟩)); have n3_ := Aside0.mk (Kd.R_mono (ok' := fun k_ => some k_ ≠ (.slice Ao41 t762.length co41 : Value).ownBlock ∧ some k_ ≠ (.slice Ao47 t767.length co47 : Value).ownBlock ∧ some k_ ≠ (.slice Ao56 t771.length co56 : Value).ownBlock ∧ some k_ ≠ (.slice Ao110 t781.length co110 : Value).ownBlock ∧ some k_ ≠ (.slice Ao114 t785.length co114 : Value).ownBlock) (Kd.R_keptB (HO_780000.out) hkp (fun k_ hk_ hs_ => (hk_.1.1.2.1) hs_)) (fun k_ hk_ => ⟨hk_.1.1.1.1, hk_.1.1.1.2.1, hk_.1.1.1.2.2, hk_.1.1.2, hk_.1.2⟩)); have n4_ := Aside0.mk (blk_kept (by (with_reducible repeat (first | refine blk_drewN ?_ _ | refine blk_drew ?_ | refine blk_alloc ?_ _)); exact BK752.out) hkp (fun hs_ => (fun e_ => (Kd.R_ne HO_771000.out BK752.out (by decide)) e_) hs_)); have n5_ := Aside0.mk (blk_kept (by (with_reducible repeat (first | refine blk_drewN ?_ _ | refine blk_drew ?_ | refine blk_alloc ?_ _)); exact BK753.out) hkp (fun hs_ => (fun e_ => (Kd.R_ne HO_771000.out BK753.out (by decide)) e_) hs_)); have n6_ := Aside0.mk (blk_kept (by (with_reducible repeat (first | refine blk_drewN ?_ _ | refine blk_drew ?_ | refine blk_alloc ?_ _)); exact BK766.out) hkp (fun hs_ => (fun e_ => (Kd.R_ne HO_771000.out BK766.out (by decide)) e_) hs_)); have n7_ := Aside0.mk (blk_kept (by (with_reducible repeat (first | refine blk_drewN ?_ _ | refine blk_drew ?_ | refine blk_alloc ?_ _)); exact BK770.out) hkp (fun hs_ => (fun e_ => (Kd.R_ne HO_771000.out BK770.out (by decide)) e_) hs_)); have n8_ := Aside0.mk (blk_kept (by (with_reducible repeat (first | refine blk_drewN ?_ _ | refine blk_drew ?_ | refine blk_alloc ?_ _)); exact BK774.out) hkp (fun hs_ => (fun e_ => (Kd.R_ne HO_771000.out BK774.out (by decide)) e_) hs_)); have n9_ := Aside0.mk (blk_kept (by (with_reducible repeat (first | refine blk_drewN ?_ _ | refine blk_drew ?_ | refine blk_alloc ?_ _)); exact BK779.out) hkp (fun hs_ => (fun e_ => (Kd.R_ne HO_771000.out BK779.out (by decide)) e_) hs_)); have n10_ := Aside0.mk (Kd.R_mono (ok' := fun k_ => some k_ ≠ (.slice Ao41 t762.length co41 : Value).ownBlock ∧ some k_ ≠ (.slice Ao47 t767.length co47 : Value).ownBlock ∧ some k_ ≠ (.slice Ao56 t771.length co56 : Value).ownBlock ∧ some k_ ≠ (.slice Ao65 t775.length co65 : Value).ownBlock ∧ some k_ ≠ (.slice Ao114 t785.length co114 : Value).ownBlock) (Kd.R_keptB (HO783.out) hkp (fun k_ hk_ hs_ => (hk_.1.1.1.2) hs_)) (fun k_ hk_ => ⟨hk_.1.1.1.1.1.2, hk_.1.1.1.1.2, hk_.1.1.1.2, hk_.1.1.2, hk_.1.2⟩)); have n11_ := Aside0.mk (Kd.R_mono (ok' := fun k_ => some k_ ≠ (.slice Ao41 t762.length co41 : Value).ownBlock ∧ some k_ ≠ (.slice Ao47 t767.length co47 : Value).ownBlock ∧ some k_ ≠ (.slice Ao56 t771.length co56 : Value).ownBlock ∧ some k_ ≠ (.slice Ao65 t775.length co65 : Value).ownBlock ∧ some k_ ≠ (.slice Ao110 t781.length co110 : Value).ownBlock) (Kd.R_keptB (HO787.out) hkp (fun k_ hk_ hs_ => (hk_.1.1.1.2) hs_)) (fun k_ hk_ => ⟨hk_.1.1.1.1.1.2, hk_.1.1.1.1.2, hk_.1.1.1.2, hk_.1.1.2, hk_.1.2⟩)); have n12_ := Aside0.mk (hb); clear HO_767000; clear HO_771000; clear HO_775000; clear HO_780000; clear BK752; clear BK753; clear BK766; clear BK770; clear BK774; clear BK779; clear HO783; clear HO787; clear HB; have HO_767000 := n0_; have HO_771000 := n1_; have HO_775000 := n2_; have HO_780000 := n3_; have BK752 := n4_; have BK753 := n5_; have BK766 := n6_; have BK770 := n7_; have BK774 := n8_; have BK779 := n9_; have HO783 := n10_; have HO787 := n11_; have HB := n12_; clear n0_ n1_ n2_ n3_ n4_ n5_ n6_ n7_ n8_ n9_ n10_ n11_ n12_; (try clear hb); (try clear hkp); (try clear hy0); have hnb123 := NB774_752.out; have hnc123 := NB752_774.out; have hnb124 := NB774_753.out; have hnc124 := NB753_774.out; have hnb125 := NB774_766.out; have hnc125 := NB766_774.out; have hnb126 := NB774_779.out; have hnc126 := NB779_774.out; have hcz127_0 : w122.cell? ⟨gb774, 0, none⟩ = some (.slice Ao56 t771.length co56) := (blk_cell BK774.out 0).trans rfl; have hfz127_0 := blk_frozen BK774.out 0) | ((with_reducible refine gate_callee (f := 19) rfl ?_); refine goesL_ (some 69) rfl rfl Tryd.func19 (by kernel_rfl) rfl #[.agg #[.slice Ao56 t771.length co56], .int .i64 t789] rfl (by (try simp only [List.map_toArray, List.map_cons, List.map_nil]); first | done | rfl | (simp only [List.length_drop, List.length_take]; rfl)) ?_; (with_reducible refine (laws_markTrie.calls kj24 (fun k_ => some k_ = (.slice Ao56 t771.length co56 : Value).ownBlock) (.slice Ao56 t771.length co56) t771 t789 t791 t792 w _ ?side1 ?side2 A106.out).mono ?_); (case side1 => repeat (first | (with_reducible first | exact HB.out | apply below_alloc | apply pw_below_drewN | apply below_drew1 | refine below_set ?_ GE752.out | refine below_set ?_ GE753.out | refine below_set ?_ GE766.out | refine below_set ?_ GE770.out | refine below_set ?_ GE774.out | refine below_set ?_ GE779.out) | exact HB.out)); (case side2 => exact Kd.R_tight rfl HO_775000.out); rintro e w128 ⟨rfl, hy0, hb, hkp⟩; refine ⟨_, rfl, ?_⟩; have n0_ := Aside0.mk (Kd.R_mono (ok' := fun k_ => some k_ ≠ (.slice Ao47 t767.length co47 : Value).ownBlock ∧ some k_ ≠ (.slice Ao56 t771.length co56 : Value).ownBlock ∧ some k_ ≠ (.slice Ao65 t775.length co65 : Value).ownBlock ∧ some k_ ≠ (.slice Ao110 t781.length co110 : Value).ownBlock ∧ some k_ ≠ (.slice Ao114 t785.length co114 : Value).ownBlock) (Kd.R_keptB (HO_767000.out) hkp (fun k_ hk_ hs_ => (hk_.2.1) hs_)) (fun k_ hk_ => ⟨hk_.1.1, hk_.1.2.1, hk_.1.2.2.1, hk_.1.2.2.2.1, hk_.1.2.2.2.2⟩)); have n1_ := Aside0.mk (Kd.R_mono (ok' := fun k_ => some k_ ≠ (.slice Ao41 t762.length co41 : Value).ownBlock ∧ some k_ ≠ (.slice Ao56 t771.length co56 : Value).ownBlock ∧ some k_ ≠ (.slice Ao65 t775.length co65 : Value).ownBlock ∧ some k_ ≠ (.slice Ao110 t781.length co110 : Value).ownBlock ∧ some k_ ≠ (.slice Ao114 t785.length co114 : Value).ownBlock) (Kd.R_keptB (HO_771000.out) hkp (fun k_ hk_ hs_ => (hk_.1.1.2.1) hs_)) (fun k_ hk_ => ⟨hk_.1.1.1.1, hk_.1.1.1.2.1, hk_.1.1.1.2.2, hk_.1.1.2, hk_.1.2⟩)); have n2_ := Aside0.mk (Kd.R_reok rfl hy0 (fun k_ e_ => HO_775000.out.1 k_ e_)); have n3_ := Aside0.mk (Kd.R_mono (ok' := fun k_ => some k_ ≠ (.slice Ao41 t762.length co41 : Value).ownBlock ∧ some k_ ≠ (.slice Ao47 t767.length co47 : Value).ownBlock ∧ some k_ ≠ (.slice Ao56 t771.length co56 : Value).ownBlock ∧ some k_ ≠ (.slice Ao110 t781.length co110 : Value).ownBlock ∧ some k_ ≠ (.slice Ao114 t785.length co114 : Value).ownBlock) (Kd.R_keptB (HO_780000.out) hkp (fun k_ hk_ hs_ => (hk_.2.2.1) hs_)) (fun k_ hk_ => ⟨hk_.1.1, hk_.1.2.1, hk_.1.2.2.1, hk_.1.2.2.2.1, hk_.1.2.2.2.2⟩)); have n4_ := Aside0.mk (blk_kept (by (with_reducible repeat (first | refine blk_drewN ?_ _ | refine blk_drew ?_ | refine blk_alloc ?_ _)); exact BK752.out) hkp (fun hs_ => (fun e_ => (Kd.R_ne HO_775000.out BK752.out (by decide)) e_) hs_)); have n5_ := Aside0.mk (blk_kept (by (with_reducible repeat (first | refine blk_drewN ?_ _ | refine blk_drew ?_ | refine blk_alloc ?_ _)); exact BK753.out) hkp (fun hs_ => (fun e_ => (Kd.R_ne HO_775000.out BK753.out (by decide)) e_) hs_)); have n6_ := Aside0.mk (blk_kept (by (with_reducible repeat (first | refine blk_drewN ?_ _ | refine blk_drew ?_ | refine blk_alloc ?_ _)); exact BK766.out) hkp (fun hs_ => (fun e_ => (Kd.R_ne HO_775000.out BK766.out (by decide)) e_) hs_)); have n7_ := Aside0.mk (blk_kept (by (with_reducible repeat (first | refine blk_drewN ?_ _ | refine blk_drew ?_ | refine blk_alloc ?_ _)); exact BK770.out) hkp (fun hs_ => (fun e_ => (Kd.R_ne HO_775000.out BK770.out (by decide)) e_) hs_)); have n8_ := Aside0.mk (blk_kept (by (with_reducible repeat (first | refine blk_drewN ?_ _ | refine blk_drew ?_ | refine blk_alloc ?_ _)); exact BK774.out) hkp (fun hs_ => (fun e_ => (Kd.R_ne HO_775000.out BK774.out (by decide)) e_) hs_)); have n9_ := Aside0.mk (blk_kept (by (with_reducible repeat (first | refine blk_drewN ?_ _ | refine blk_drew ?_ | refine blk_alloc ?_ _)); exact BK779.out) hkp (fun hs_ => (fun e_ => (Kd.R_ne HO_775000.out BK779.out (by decide)) e_) hs_)); have n10_ := Aside0.mk (Kd.R_mono (ok' := fun k_ => some k_ ≠ (.slice Ao41 t762.length co41 : Value).ownBlock ∧ some k_ ≠ (.slice Ao47 t767.length co47 : Value).ownBlock ∧ some k_ ≠ (.slice Ao56 t771.length co56 : Value).ownBlock ∧ some k_ ≠ (.slice Ao65 t775.length co65 : Value).ownBlock ∧ some k_ ≠ (.slice Ao114 t785.length co114 : Value).ownBlock) (Kd.R_keptB (HO783.out) hkp (fun k_ hk_ hs_ => (hk_.2.2.1) hs_)) (fun k_ hk_ => ⟨hk_.1.1, hk_.1.2.1, hk_.1.2.2.1, hk_.1.2.2.2.1, hk_.1.2.2.2.2⟩)); have n11_ := Aside0.mk (Kd.R_mono (ok' := fun k_ => some k_ ≠ (.slice Ao41 t762.length co41 : Value).ownBlock ∧ some k_ ≠ (.slice Ao47 t767.length co47 : Value).ownBlock ∧ some k_ ≠ (.slice Ao56 t771.length co56 : Value).ownBlock ∧ some k_ ≠ (.slice Ao65 t775.length co65 : Value).ownBlock ∧ some k_ ≠ (.slice Ao110 t781.length co110 : Value).ownBlock) (Kd.R_keptB (HO787.out) hkp (fun k_ hk_ hs_ => (hk_.2.2.1) hs_)) (fun k_ hk_ => ⟨hk_.1.1, hk_.1.2.1, hk_.1.2.2.1, hk_.1.2.2.2.1, hk_.1.2.2.2.2⟩)); have n12_ := Aside0.mk (hb); clear HO_767000; clear HO_771000; clear HO_775000; clear HO_780000; clear BK752; clear BK753; clear BK766; clear BK770; clear BK774; clear BK779; clear HO783; clear HO787; clear HB; have HO_767000 := n0_; have HO_771000 := n1_; have HO_775000 := n2_; have HO_780000 := n3_; have BK752 := n4_; have BK753 := n5_; have BK766 := n6_; have BK770 := n7_; have BK774 := n8_; have BK779 := n9_; have HO783 := n10_; have HO787 := n11_; have HB := n12_; clear n0_ n1_ n2_ n3_ n4_ n5_ n6_ n7_ n8_ n9_ n10_ n11_ n12_; (try clear hb); (try clear hkp); (try clear hy0)))
        (try simp only [Act.put, List.setIfInBounds_toArray, List.set_cons_zero, List.set_cons_succ])
        go_cut [82] (fun v82 wc => ∃ (kq : Nat) (x82_106 : Bool), v82 = .bool x82_106 ∧ Aside0 (laws_FnExactTimesTrie.j1 kq t765 x82_106 l0_0 l1_0 t762 t775 = some true) ∧ Aside0 (kq ≤ kj24) ∧ Aside0 (Kd.R k76 76 wc w.heap.size (fun k_ => some k_ ≠ ((.slice Ao47 t767.length co47) : Value).ownBlock ∧ some k_ ≠ ((.slice Ao56 t771.length co56) : Value).ownBlock ∧ some k_ ≠ ((.slice Ao65 t775.length co65) : Value).ownBlock) (.slice Ao41 t762.length co41) t762) ∧ Aside0 (Kd.R k76 76 wc w.heap.size (fun k_ => some k_ ≠ ((.slice Ao41 t762.length co41) : Value).ownBlock ∧ some k_ ≠ ((.slice Ao56 t771.length co56) : Value).ownBlock ∧ some k_ ≠ ((.slice Ao65 t775.length co65) : Value).ownBlock) (.slice Ao47 t767.length co47) t790) ∧ Aside0 (Kd.R k76 76 wc w.heap.size (fun k_ => some k_ ≠ ((.slice Ao41 t762.length co41) : Value).ownBlock ∧ some k_ ≠ ((.slice Ao47 t767.length co47) : Value).ownBlock ∧ some k_ ≠ ((.slice Ao65 t775.length co65) : Value).ownBlock) (.slice Ao56 t771.length co56) t792) ∧ Aside0 (Kd.R k76 76 wc w.heap.size (fun k_ => some k_ ≠ ((.slice Ao41 t762.length co41) : Value).ownBlock ∧ some k_ ≠ ((.slice Ao47 t767.length co47) : Value).ownBlock ∧ some k_ ≠ ((.slice Ao56 t771.length co56) : Value).ownBlock) (.slice Ao65 t775.length co65) t775) ∧ Aside0 (wc.heap[gb752]? = some (.cells #[(.slice A0_0 l0_0.length c0_0)] 36 (0, 0))) ∧ Aside0 (wc.heap[gb753]? = some (.cells #[(.slice A1_0 l1_0.length c1_0)] 36 (0, 0))) ∧ Aside0 (wc.heap[gb766]? = some (.cells #[(.slice Ao41 t762.length co41)] 26 (0, 0))) ∧ Aside0 (wc.heap[gb770]? = some (.cells #[(.slice Ao47 t767.length co47)] 26 (0, 0))) ∧ Aside0 (wc.heap[gb774]? = some (.cells #[(.slice Ao56 t771.length co56)] 26 (0, 0))) ∧ Aside0 (wc.heap[gb779]? = some (.cells #[(.slice Ao65 t775.length co65)] 26 (0, 0))) ∧ Aside0 (Below w.heap.size w wc))
        case first =>
         have H := HC107.out
         clear HC107
         by_cases c129 : t791 < 0
         ·rw [if_pos c129] at H
          exact absurd H (by cases kj24 <;> simp [laws_FnExactTimesTrie.j1])
         ·rw [if_neg c129] at H
          have c129b0 : decide (t791 < 0) = false := decide_eq_false c129
          clear c129
          (first | rw [c129b0] | (simp only [i64_w, i32_w]; rw [c129b0]) | skip)
          replace H := Option.bind_eq_some_iff.mp H
          obtain ⟨t793, A1300, H⟩ := H
          replace H : (if t793 = true then (laws_FnExactTimesTrie.j1 kj24 t765 (t778 != t765) l0_0 l1_0 t762 t775) else (laws_FnExactTimesTrie.j1 kj24 t765 true l0_0 l1_0 t762 t775)) = some true := H
          have A130 := Aside0.mk A1300
          clear A1300
          by_cases c131 : t793 = true
          ·subst c131
           have H1 : (laws_FnExactTimesTrie.j1 kj24 t765 (t778 != t765) l0_0 l1_0 t762 t775) = some true := by rw [if_pos rfl] at H; exact H
           clear H
           have H := H1
           clear H1
           have H' := Aside0.mk H
           clear H
           have hnb132 := NB779_752.out
           have hnc132 := NB752_779.out
           have hnb133 := NB779_753.out
           have hnc133 := NB753_779.out
           have hnb134 := NB779_766.out
           have hnc134 := NB766_779.out
           have hnb135 := NB779_770.out
           have hnc135 := NB770_779.out
           have hnb136 := NB779_774.out
           have hnc136 := NB774_779.out
           have hcz137_0 : w128.cell? ⟨gb779, 0, none⟩ = some (.slice Ao65 t775.length co65) := (blk_cell BK779.out 0).trans rfl
           have hfz137_0 := blk_frozen BK779.out 0
           have hnb138 := NB766_752.out
           have hnc138 := NB752_766.out
           have hnb139 := NB766_753.out
           have hnc139 := NB753_766.out
           have hnb140 := NB766_770.out
           have hnc140 := NB770_766.out
           have hnb141 := NB766_774.out
           have hnc141 := NB774_766.out
           have hcz142_0 : w128.cell? ⟨gb766, 0, none⟩ = some (.slice Ao41 t762.length co41) := (blk_cell BK766.out 0).trans rfl
           have hfz142_0 := blk_frozen BK766.out 0
           go_wp2_with (first | (go_at_call 16; (with_reducible refine (laws_eqTrie.calls kj24 _ _ t775 _ _ t762 true _ ?side1 ?side2 ?side3 ?side4 A130.out).mono ?_); (case side1 => repeat (first | exact (Kd.R_reads' HO_780000.out).2.2 | (with_reducible refine Kd.C_alloc ?_ _) | (with_reducible refine Kd.C_drewN ?_ _) | (with_reducible refine Kd.C_drew ?_))); (case side2 => exact (Kd.R_reads' HO_780000.out).2.1); (case side3 => repeat (first | exact (Kd.R_reads' HO_767000.out).2.2 | (with_reducible refine Kd.C_alloc ?_ _) | (with_reducible refine Kd.C_drewN ?_ _) | (with_reducible refine Kd.C_drew ?_))); (case side4 => exact (Kd.R_reads' HO_767000.out).2.1); rintro e w143 ⟨rfl, hb⟩; have n0_ := Aside0.mk (Kd.R_below (by (with_reducible repeat (first | apply Kd.R_alloc | apply Kd.R_drewN | apply Kd.R_drew)); exact HO_767000.out) hb); have n1_ := Aside0.mk (Kd.R_below (by (with_reducible repeat (first | apply Kd.R_alloc | apply Kd.R_drewN | apply Kd.R_drew)); exact HO_771000.out) hb); have n2_ := Aside0.mk (Kd.R_below (by (with_reducible repeat (first | apply Kd.R_alloc | apply Kd.R_drewN | apply Kd.R_drew)); exact HO_775000.out) hb); have n3_ := Aside0.mk (Kd.R_below (by (with_reducible repeat (first | apply Kd.R_alloc | apply Kd.R_drewN | apply Kd.R_drew)); exact HO_780000.out) hb); have n4_ := Aside0.mk (Kd.R_below (by (with_reducible repeat (first | apply Kd.R_alloc | apply Kd.R_drewN | apply Kd.R_drew)); exact HO783.out) hb); have n5_ := Aside0.mk (Kd.R_below (by (with_reducible repeat (first | apply Kd.R_alloc | apply Kd.R_drewN | apply Kd.R_drew)); exact HO787.out) hb); have n6_ := Aside0.mk (blk_below (g := gb752) (o := .cells #[.slice A0_0 l0_0.length c0_0] 36 (0, 0)) (by (with_reducible repeat (first | refine blk_drewN ?_ _ | refine blk_drew ?_ | refine blk_alloc ?_ _)); exact BK752.out) hb); have n7_ := Aside0.mk (blk_below (g := gb753) (o := .cells #[.slice A1_0 l1_0.length c1_0] 36 (0, 0)) (by (with_reducible repeat (first | refine blk_drewN ?_ _ | refine blk_drew ?_ | refine blk_alloc ?_ _)); exact BK753.out) hb); have n8_ := Aside0.mk (blk_below (g := gb766) (o := .cells #[.slice Ao41 t762.length co41] 26 (0, 0)) (by (with_reducible repeat (first | refine blk_drewN ?_ _ | refine blk_drew ?_ | refine blk_alloc ?_ _)); exact BK766.out) hb); have n9_ := Aside0.mk (blk_below (g := gb770) (o := .cells #[.slice Ao47 t767.length co47] 26 (0, 0)) (by (with_reducible repeat (first | refine blk_drewN ?_ _ | refine blk_drew ?_ | refine blk_alloc ?_ _)); exact BK770.out) hb); have n10_ := Aside0.mk (blk_below (g := gb774) (o := .cells #[.slice Ao56 t771.length co56] 26 (0, 0)) (by (with_reducible repeat (first | refine blk_drewN ?_ _ | refine blk_drew ?_ | refine blk_alloc ?_ _)); exact BK774.out) hb); have n11_ := Aside0.mk (blk_below (g := gb779) (o := .cells #[.slice Ao65 t775.length co65] 26 (0, 0)) (by (with_reducible repeat (first | refine blk_drewN ?_ _ | refine blk_drew ?_ | refine blk_alloc ?_ _)); exact BK779.out) hb); have n12_ := Aside0.mk (below_step (by repeat (first | (with_reducible first | exact HB.out | apply below_alloc | apply pw_below_drewN | apply below_drew1 | refine below_set ?_ GE752.out | refine below_set ?_ GE753.out | refine below_set ?_ GE766.out | refine below_set ?_ GE770.out | refine below_set ?_ GE774.out | refine below_set ?_ GE779.out) | exact HB.out)) hb); clear HO_767000; clear HO_771000; clear HO_775000; clear HO_780000; clear HO783; clear HO787; clear BK752; clear BK753; clear BK766; clear BK770; clear BK774; clear BK779; clear HB; have HO_767000 := n0_; have HO_771000 := n1_; have HO_775000 := n2_; have HO_780000 := n3_; have HO783 := n4_; have HO787 := n5_; have BK752 := n6_; have BK753 := n7_; have BK766 := n8_; have BK770 := n9_; have BK774 := n10_; have BK779 := n11_; have HB := n12_; clear n0_ n1_ n2_ n3_ n4_ n5_ n6_ n7_ n8_ n9_ n10_ n11_ n12_; (try clear hb); (try clear hb2); (try clear hk); (try clear hi)))
           go_meet
           case rel => exact ⟨_, ((t778 != t765)), (by first | rfl | (simp; done) | (simp [*]; done)), H', ⟨by have := HJ24.out; first | omega | exact Nat.le_refl _⟩, ⟨by (with_reducible repeat (first | apply Kd.R_alloc | apply Kd.R_drewN | apply Kd.R_drew)); exact Kd.R_mono HO_767000.out (fun _ hk => ⟨hk.1, ⟨hk.2.1, hk.2.2.1⟩⟩)⟩, ⟨by (with_reducible repeat (first | apply Kd.R_alloc | apply Kd.R_drewN | apply Kd.R_drew)); exact Kd.R_mono HO_771000.out (fun _ hk => ⟨hk.1, ⟨hk.2.1, hk.2.2.1⟩⟩)⟩, ⟨by (with_reducible repeat (first | apply Kd.R_alloc | apply Kd.R_drewN | apply Kd.R_drew)); exact Kd.R_mono HO_775000.out (fun _ hk => ⟨hk.1, ⟨hk.2.1, hk.2.2.1⟩⟩)⟩, ⟨by (with_reducible repeat (first | apply Kd.R_alloc | apply Kd.R_drewN | apply Kd.R_drew)); exact Kd.R_mono HO_780000.out (fun _ hk => ⟨hk.1, ⟨hk.2.1, hk.2.2.1⟩⟩)⟩, ⟨by (with_reducible repeat (first | refine blk_drewN ?_ _ | refine blk_drew ?_ | refine blk_alloc ?_ _)); exact BK752.out⟩, ⟨by (with_reducible repeat (first | refine blk_drewN ?_ _ | refine blk_drew ?_ | refine blk_alloc ?_ _)); exact BK753.out⟩, ⟨by (with_reducible repeat (first | refine blk_drewN ?_ _ | refine blk_drew ?_ | refine blk_alloc ?_ _)); exact BK766.out⟩, ⟨by (with_reducible repeat (first | refine blk_drewN ?_ _ | refine blk_drew ?_ | refine blk_alloc ?_ _)); exact BK770.out⟩, ⟨by (with_reducible repeat (first | refine blk_drewN ?_ _ | refine blk_drew ?_ | refine blk_alloc ?_ _)); exact BK774.out⟩, ⟨by (with_reducible repeat (first | refine blk_drewN ?_ _ | refine blk_drew ?_ | refine blk_alloc ?_ _)); exact BK779.out⟩, ⟨by repeat (first | (with_reducible first | exact HB.out | apply below_alloc | apply pw_below_drewN | apply below_drew1 | refine below_set ?_ GE752.out | refine below_set ?_ GE753.out | refine below_set ?_ GE766.out | refine below_set ?_ GE770.out | refine below_set ?_ GE774.out | refine below_set ?_ GE779.out) | exact HB.out)⟩⟩
          ·replace c131 := Bool.eq_false_iff.mpr c131
           subst c131
           have H1 : (laws_FnExactTimesTrie.j1 kj24 t765 true l0_0 l1_0 t762 t775) = some true := by rw [if_neg (show ¬ (false = true) by decide)] at H; exact H
           exact absurd H1 (by cases kj24 <;> simp [laws_FnExactTimesTrie.j1])
        case rest =>
         clear HC107
         try clear c1
         try clear c2
         try clear p2
         try clear c3
         try clear c4
         try clear c5
         try clear c6
         try clear c7
         try clear c8
         try clear c9
         try clear c10
         try clear c11
         try clear c12
         try clear c13
         try clear c14
         try clear c15
         try clear c16
         try clear c19
         try clear c23
         try clear c33
         try clear c34
         try clear c43
         try clear c48
         try clear c49
         try clear c50
         try clear c52
         try clear c57
         try clear c58
         try clear c59
         try clear c60
         try clear c66
         try clear c67
         try clear c68
         try clear c69
         try clear c70
         try clear c73
         try clear c74
         try clear c75
         try clear c76
         try clear c77
         try clear c78
         try clear c80
         try clear c81
         try clear c82
         try clear c83
         try clear c86
         try clear c87
         try clear c88
         try clear c89
         try clear c90
         try clear c92
         try clear c93
         try clear c94
         try clear c95
         try clear c98
         try clear c101
         try clear c104
         try clear c116
         try clear c117
         try clear c118
         try clear c119
         try clear c120
         try clear c123
         try clear c124
         try clear c125
         try clear c126
         try clear c129
         try clear c129b0
         try clear c131
         try clear c132
         try clear c133
         try clear c134
         try clear c135
         try clear c136
         try clear c138
         try clear c139
         try clear c140
         try clear c141
         try clear c144
         try clear c145
         try clear c146
         try clear c147
         try clear c148
         try clear c150
         try clear c151
         try clear c152
         try clear c153
         try clear hcz121_0
         try clear hcz127_0
         try clear hcz137_0
         try clear hcz142_0
         try clear hcz149_0
         try clear hcz154_0
         try clear hcz44_0
         try clear hcz51_0
         try clear hcz53_0
         try clear hcz61_0
         try clear hcz62_0
         try clear hcz71_0
         try clear hcz79_0
         try clear hcz84_0
         try clear hcz91_0
         try clear hcz96_0
         try clear hfz121_0
         try clear hfz127_0
         try clear hfz137_0
         try clear hfz142_0
         try clear hfz149_0
         try clear hfz154_0
         try clear hfz44_0
         try clear hfz51_0
         try clear hfz53_0
         try clear hfz61_0
         try clear hfz62_0
         try clear hfz71_0
         try clear hfz79_0
         try clear hfz84_0
         try clear hfz91_0
         try clear hfz96_0
         try clear p2
         obtain ⟨kq, x82_106, rfl, HA, HJ106, HO_767000, HO_771000, HO_775000, HO_780000, BK752, BK753, BK766, BK770, BK774, BK779, HB⟩ := hcut
         have hl771000_106 := (Kd.R_reads' HO_771000.out).1
         rw [hl771000_106] at HO_771000
         (try simp only [hl771000_106])
         (try simp only [hl771000_106] at BK752)
         (try simp only [hl771000_106] at BK753)
         (try simp only [hl771000_106] at BK766)
         (try simp only [hl771000_106] at BK770)
         (try simp only [hl771000_106] at BK774)
         (try simp only [hl771000_106] at BK779)
         (try simp only [hl771000_106] at HO_767000)
         (try simp only [hl771000_106] at HO_775000)
         (try simp only [hl771000_106] at HO_780000)
         have hl775000_106 := (Kd.R_reads' HO_775000.out).1
         rw [hl775000_106] at HO_775000
         (try simp only [hl775000_106])
         (try simp only [hl775000_106] at BK752)
         (try simp only [hl775000_106] at BK753)
         (try simp only [hl775000_106] at BK766)
         (try simp only [hl775000_106] at BK770)
         (try simp only [hl775000_106] at BK774)
         (try simp only [hl775000_106] at BK779)
         (try simp only [hl775000_106] at HO_767000)
         (try simp only [hl775000_106] at HO_771000)
         (try simp only [hl775000_106] at HO_780000)
         cases kq with
         | zero => exact absurd HA.out (by simp [laws_FnExactTimesTrie.j1])
         | succ kj106 =>
          have H := HA.out
          clear HA
          simp only [laws_FnExactTimesTrie.j1] at H
          by_cases c156 : x82_106 = true
          ·subst c156
           have H1 : (some false) = some true := by rw [if_pos rfl] at H; exact H
           exact absurd H1 (by simp)
          ·replace c156 := Bool.eq_false_iff.mpr c156
           subst c156
           have H1 : ((laws_markTrie.f kj106 t775 1).bind fun bt794 => ((laws_heldTrie.f kj106 bt794.2 1).bind fun t796 => (if t796 < 0 then (some false) else (if t796 = bt794.1 then ((laws_toTrie.f kj106 l0_0).bind fun t797 => ((laws_toTrie.f kj106 l1_0).bind fun t800 => ((impl_TimesTrie.f kj106 t797 t800).bind fun bt803 => ((laws_eqTrie.f kj106 bt803.1 t762).bind fun t808 => (if t808 = true then (laws_FnExactTimesTrie.j2 kj106 bt794.1 (bt803.2 != t765) bt794.2) else (laws_FnExactTimesTrie.j2 kj106 bt794.1 true bt794.2)))))) else (some false))))) = some true := by rw [if_neg (show ¬ (false = true) by decide)] at H; exact H
           clear H
           have H := H1
           clear H1
           replace H := Option.bind_eq_some_iff.mp H
           obtain ⟨⟨t794, t795⟩, A1570, H⟩ := H
           replace H : ((laws_heldTrie.f kj106 t795 1).bind fun t796 => (if t796 < 0 then (some false) else (if t796 = t794 then ((laws_toTrie.f kj106 l0_0).bind fun t797 => ((laws_toTrie.f kj106 l1_0).bind fun t800 => ((impl_TimesTrie.f kj106 t797 t800).bind fun bt803 => ((laws_eqTrie.f kj106 bt803.1 t762).bind fun t808 => (if t808 = true then (laws_FnExactTimesTrie.j2 kj106 t794 (bt803.2 != t765) t795) else (laws_FnExactTimesTrie.j2 kj106 t794 true t795)))))) else (some false)))) = some true := H
           have A157 := Aside0.mk A1570
           clear A1570
           replace H := Option.bind_eq_some_iff.mp H
           obtain ⟨t796, A1580, H⟩ := H
           replace H : (if t796 < 0 then (some false) else (if t796 = t794 then ((laws_toTrie.f kj106 l0_0).bind fun t797 => ((laws_toTrie.f kj106 l1_0).bind fun t800 => ((impl_TimesTrie.f kj106 t797 t800).bind fun bt803 => ((laws_eqTrie.f kj106 bt803.1 t762).bind fun t808 => (if t808 = true then (laws_FnExactTimesTrie.j2 kj106 t794 (bt803.2 != t765) t795) else (laws_FnExactTimesTrie.j2 kj106 t794 true t795)))))) else (some false))) = some true := H
           have A158 := Aside0.mk A1580
           clear A1580
           by_cases c159 : t796 < 0
           ·rw [if_pos c159] at H
            exact absurd H (by simp)
           ·rw [if_neg c159] at H
            have c159b0 : decide (t796 < 0) = false := decide_eq_false c159
            clear c159
            by_cases c169 : t796 = t794
            ·rw [if_pos c169] at H
             have c169b0 : (t796 == t794) = true := beq_iff_eq.mpr c169
             have c169b1 : (t796 != t794) = false := bne_eq_false_iff_eq.mpr c169
             clear c169
             replace H := Option.bind_eq_some_iff.mp H
             obtain ⟨t797, A1700, H⟩ := H
             replace H : ((laws_toTrie.f kj106 l1_0).bind fun t800 => ((impl_TimesTrie.f kj106 t797 t800).bind fun bt803 => ((laws_eqTrie.f kj106 bt803.1 t762).bind fun t808 => (if t808 = true then (laws_FnExactTimesTrie.j2 kj106 t794 (bt803.2 != t765) t795) else (laws_FnExactTimesTrie.j2 kj106 t794 true t795))))) = some true := H
             have A170 := Aside0.mk A1700
             clear A1700
             replace H := Option.bind_eq_some_iff.mp H
             obtain ⟨t800, A1710, H⟩ := H
             replace H : ((impl_TimesTrie.f kj106 t797 t800).bind fun bt803 => ((laws_eqTrie.f kj106 bt803.1 t762).bind fun t808 => (if t808 = true then (laws_FnExactTimesTrie.j2 kj106 t794 (bt803.2 != t765) t795) else (laws_FnExactTimesTrie.j2 kj106 t794 true t795)))) = some true := H
             have A171 := Aside0.mk A1710
             clear A1710
             replace H := Option.bind_eq_some_iff.mp H
             obtain ⟨⟨t803, t806⟩, A1720, H⟩ := H
             replace H : ((laws_eqTrie.f kj106 t803 t762).bind fun t808 => (if t808 = true then (laws_FnExactTimesTrie.j2 kj106 t794 (t806 != t765) t795) else (laws_FnExactTimesTrie.j2 kj106 t794 true t795))) = some true := H
             have A172 := Aside0.mk A1720
             clear A1720
             have HC173 := Aside0.mk H
             clear H
             have hnb174 := NB779_752.out
             have hnc174 := NB752_779.out
             have hnb175 := NB779_753.out
             have hnc175 := NB753_779.out
             have hnb176 := NB779_766.out
             have hnc176 := NB766_779.out
             have hnb177 := NB779_770.out
             have hnc177 := NB770_779.out
             have hnb178 := NB779_774.out
             have hnc178 := NB774_779.out
             have hcz179_0 : wc.cell? ⟨gb779, 0, none⟩ = some (.slice Ao65 t775.length co65) := (blk_cell BK779.out 0).trans rfl
             have hfz179_0 := blk_frozen BK779.out 0
             try go_wp2_with (first | ((with_reducible refine gate_callee (f := 19) rfl ?_); refine goesL_ (some 85) rfl rfl Tryd.func19 (by kernel_rfl) rfl #[.agg #[.slice Ao65 t775.length co65], .int .i64 1] rfl (by (try simp only [List.map_toArray, List.map_cons, List.map_nil]); first | done | rfl | (simp only [List.length_drop, List.length_take]; rfl)) ?_; (with_reducible refine (laws_markTrie.calls kj106 (fun k_ => some k_ = (.slice Ao65 t775.length co65 : Value).ownBlock) (.slice Ao65 t775.length co65) t775 1 t794 t795 w _ ?side1 ?side2 A157.out).mono ?_); (case side1 => repeat (first | (with_reducible first | exact HB.out | apply below_alloc | apply pw_below_drewN | apply below_drew1 | refine below_set ?_ GE752.out | refine below_set ?_ GE753.out | refine below_set ?_ GE766.out | refine below_set ?_ GE770.out | refine below_set ?_ GE774.out | refine below_set ?_ GE779.out) | exact HB.out)); (case side2 => exact Kd.R_tight rfl HO_780000.out); rintro e w180 ⟨rfl, hy0, hb, hkp⟩; refine ⟨_, rfl, ?_⟩; have n0_ := Aside0.mk (Kd.R_mono (ok' := fun k_ => some k_ ≠ (.slice Ao47 t790.length co47 : Value).ownBlock ∧ some k_ ≠ (.slice Ao56 t792.length co56 : Value).ownBlock ∧ some k_ ≠ (.slice Ao65 t775.length co65 : Value).ownBlock) (Kd.R_keptB (HO_767000.out) hkp (fun k_ hk_ hs_ => (hk_.2.2) hs_)) (fun k_ hk_ => ⟨hk_.1.1, hk_.1.2.1, hk_.1.2.2⟩)); have n1_ := Aside0.mk (Kd.R_mono (ok' := fun k_ => some k_ ≠ (.slice Ao41 t762.length co41 : Value).ownBlock ∧ some k_ ≠ (.slice Ao56 t792.length co56 : Value).ownBlock ∧ some k_ ≠ (.slice Ao65 t775.length co65 : Value).ownBlock) (Kd.R_keptB (HO_771000.out) hkp (fun k_ hk_ hs_ => (hk_.2.2) hs_)) (fun k_ hk_ => ⟨hk_.1.1, hk_.1.2.1, hk_.1.2.2⟩)); have n2_ := Aside0.mk (Kd.R_mono (ok' := fun k_ => some k_ ≠ (.slice Ao41 t762.length co41 : Value).ownBlock ∧ some k_ ≠ (.slice Ao47 t790.length co47 : Value).ownBlock ∧ some k_ ≠ (.slice Ao65 t775.length co65 : Value).ownBlock) (Kd.R_keptB (HO_775000.out) hkp (fun k_ hk_ hs_ => (hk_.2.2) hs_)) (fun k_ hk_ => ⟨hk_.1.1, hk_.1.2.1, hk_.1.2.2⟩)); have n3_ := Aside0.mk (Kd.R_reok rfl hy0 (fun k_ e_ => HO_780000.out.1 k_ e_)); have n4_ := Aside0.mk (blk_kept (by (with_reducible repeat (first | refine blk_drewN ?_ _ | refine blk_drew ?_ | refine blk_alloc ?_ _)); exact BK752.out) hkp (fun hs_ => (fun e_ => (Kd.R_ne HO_780000.out BK752.out (by decide)) e_) hs_)); have n5_ := Aside0.mk (blk_kept (by (with_reducible repeat (first | refine blk_drewN ?_ _ | refine blk_drew ?_ | refine blk_alloc ?_ _)); exact BK753.out) hkp (fun hs_ => (fun e_ => (Kd.R_ne HO_780000.out BK753.out (by decide)) e_) hs_)); have n6_ := Aside0.mk (blk_kept (by (with_reducible repeat (first | refine blk_drewN ?_ _ | refine blk_drew ?_ | refine blk_alloc ?_ _)); exact BK766.out) hkp (fun hs_ => (fun e_ => (Kd.R_ne HO_780000.out BK766.out (by decide)) e_) hs_)); have n7_ := Aside0.mk (blk_kept (by (with_reducible repeat (first | refine blk_drewN ?_ _ | refine blk_drew ?_ | refine blk_alloc ?_ _)); exact BK770.out) hkp (fun hs_ => (fun e_ => (Kd.R_ne HO_780000.out BK770.out (by decide)) e_) hs_)); have n8_ := Aside0.mk (blk_kept (by (with_reducible repeat (first | refine blk_drewN ?_ _ | refine blk_drew ?_ | refine blk_alloc ?_ _)); exact BK774.out) hkp (fun hs_ => (fun e_ => (Kd.R_ne HO_780000.out BK774.out (by decide)) e_) hs_)); have n9_ := Aside0.mk (blk_kept (by (with_reducible repeat (first | refine blk_drewN ?_ _ | refine blk_drew ?_ | refine blk_alloc ?_ _)); exact BK779.out) hkp (fun hs_ => (fun e_ => (Kd.R_ne HO_780000.out BK779.out (by decide)) e_) hs_)); have n10_ := Aside0.mk (hb); clear HO_767000; clear HO_771000; clear HO_775000; clear HO_780000; clear BK752; clear BK753; clear BK766; clear BK770; clear BK774; clear BK779; clear HB; have HO_767000 := n0_; have HO_771000 := n1_; have HO_775000 := n2_; have HO_780000 := n3_; have BK752 := n4_; have BK753 := n5_; have BK766 := n6_; have BK770 := n7_; have BK774 := n8_; have BK779 := n9_; have HB := n10_; clear n0_ n1_ n2_ n3_ n4_ n5_ n6_ n7_ n8_ n9_ n10_; (try clear hb); (try clear hkp); (try clear hy0); have hcz181_0 : w180.cell? ⟨gb779, 0, none⟩ = some (.slice Ao65 t775.length co65) := (blk_cell BK779.out 0).trans rfl; have hfz181_0 := blk_frozen BK779.out 0) | ((with_reducible refine gate_callee (f := 20) rfl ?_); refine goesL_ (some 88) rfl rfl Tryd.func20 (by kernel_rfl) rfl #[.agg #[.slice Ao65 t795.length co65], .int .i64 1] rfl (by (try simp only [List.map_toArray, List.map_cons, List.map_nil]); first | done | (rw [show t795.length = t775.length from (Kd.R_reads' HO_780000.out).1.symm] <;> rfl) | rfl | (simp only [List.length_drop, List.length_take]; rfl)) ?_; (with_reducible refine (laws_heldTrie.calls kj106 _ _ t795 1 t796 _ ?side1 ?side2 A158.out).mono ?_); (case side1 => repeat (first | exact (Kd.R_reads' HO_780000.out).2.2 | (with_reducible refine Kd.C_alloc ?_ _) | (with_reducible refine Kd.C_drewN ?_ _) | (with_reducible refine Kd.C_drew ?_))); (case side2 => rw [show t795.length = t775.length from (Kd.R_reads' HO_780000.out).1.symm]; exact (Kd.R_reads' HO_780000.out).2.1); rintro e w182 ⟨rfl, hb⟩; refine ⟨_, rfl, ?_⟩; have n0_ := Aside0.mk (Kd.R_below (by (with_reducible repeat (first | apply Kd.R_alloc | apply Kd.R_drewN | apply Kd.R_drew)); exact HO_767000.out) hb); have n1_ := Aside0.mk (Kd.R_below (by (with_reducible repeat (first | apply Kd.R_alloc | apply Kd.R_drewN | apply Kd.R_drew)); exact HO_771000.out) hb); have n2_ := Aside0.mk (Kd.R_below (by (with_reducible repeat (first | apply Kd.R_alloc | apply Kd.R_drewN | apply Kd.R_drew)); exact HO_775000.out) hb); have n3_ := Aside0.mk (Kd.R_below (by (with_reducible repeat (first | apply Kd.R_alloc | apply Kd.R_drewN | apply Kd.R_drew)); exact HO_780000.out) hb); have n4_ := Aside0.mk (blk_below (g := gb752) (o := .cells #[.slice A0_0 l0_0.length c0_0] 36 (0, 0)) (by (with_reducible repeat (first | refine blk_drewN ?_ _ | refine blk_drew ?_ | refine blk_alloc ?_ _)); exact BK752.out) hb); have n5_ := Aside0.mk (blk_below (g := gb753) (o := .cells #[.slice A1_0 l1_0.length c1_0] 36 (0, 0)) (by (with_reducible repeat (first | refine blk_drewN ?_ _ | refine blk_drew ?_ | refine blk_alloc ?_ _)); exact BK753.out) hb); have n6_ := Aside0.mk (blk_below (g := gb766) (o := .cells #[.slice Ao41 t762.length co41] 26 (0, 0)) (by (with_reducible repeat (first | refine blk_drewN ?_ _ | refine blk_drew ?_ | refine blk_alloc ?_ _)); exact BK766.out) hb); have n7_ := Aside0.mk (blk_below (g := gb770) (o := .cells #[.slice Ao47 t790.length co47] 26 (0, 0)) (by (with_reducible repeat (first | refine blk_drewN ?_ _ | refine blk_drew ?_ | refine blk_alloc ?_ _)); exact BK770.out) hb); have n8_ := Aside0.mk (blk_below (g := gb774) (o := .cells #[.slice Ao56 t792.length co56] 26 (0, 0)) (by (with_reducible repeat (first | refine blk_drewN ?_ _ | refine blk_drew ?_ | refine blk_alloc ?_ _)); exact BK774.out) hb); have n9_ := Aside0.mk (blk_below (g := gb779) (o := .cells #[.slice Ao65 t775.length co65] 26 (0, 0)) (by (with_reducible repeat (first | refine blk_drewN ?_ _ | refine blk_drew ?_ | refine blk_alloc ?_ _)); exact BK779.out) hb); have n10_ := Aside0.mk (below_step (by repeat (first | (with_reducible first | exact HB.out | apply below_alloc | apply pw_below_drewN | apply below_drew1 | refine below_set ?_ GE752.out | refine below_set ?_ GE753.out | refine below_set ?_ GE766.out | refine below_set ?_ GE770.out | refine below_set ?_ GE774.out | refine below_set ?_ GE779.out) | exact HB.out)) hb); clear HO_767000; clear HO_771000; clear HO_775000; clear HO_780000; clear BK752; clear BK753; clear BK766; clear BK770; clear BK774; clear BK779; clear HB; have HO_767000 := n0_; have HO_771000 := n1_; have HO_775000 := n2_; have HO_780000 := n3_; have BK752 := n4_; have BK753 := n5_; have BK766 := n6_; have BK770 := n7_; have BK774 := n8_; have BK779 := n9_; have HB := n10_; clear n0_ n1_ n2_ n3_ n4_ n5_ n6_ n7_ n8_ n9_ n10_; (try clear hb); (try clear hb2); (try clear hk); (try clear hi)))
             have n0_ := Aside0.mk (Kd.R_drew HO_767000.out)
             have n1_ := Aside0.mk (Kd.R_drew HO_771000.out)
             have n2_ := Aside0.mk (Kd.R_drew HO_775000.out)
             have n3_ := Aside0.mk (Kd.R_drew HO_780000.out)
             have n4_ := Aside0.mk (blk_drew BK752.out)
             have n5_ := Aside0.mk (blk_drew BK753.out)
             have n6_ := Aside0.mk (blk_drew BK766.out)
             have n7_ := Aside0.mk (blk_drew BK770.out)
             have n8_ := Aside0.mk (blk_drew BK774.out)
             have n9_ := Aside0.mk (blk_drew BK779.out)
             have n10_ := Aside0.mk (below_drew1 HB.out)
             revert n0_ n1_ n2_ n3_ n4_ n5_ n6_ n7_ n8_ n9_ n10_
             clear HO_767000 HO_771000 HO_775000 HO_780000 BK752 BK753 BK766 BK770 BK774 BK779 HB
             intro HO_767000 HO_771000 HO_775000 HO_780000 BK752 BK753 BK766 BK770 BK774 BK779 HB
             refine start_ (n := 11) (S := fun w' => w'.cell? ⟨gb752, 0, none⟩ = some (.slice A0_0 l0_0.length c0_0) ∧ w'.cell? ⟨gb753, 0, none⟩ = some (.slice A1_0 l1_0.length c1_0)) (ds := []) #[false, false, false, false, false, false, false, false, false, false, false] (by kernel_rfl) rfl rfl ⟨(blk_cell BK752.out 0).trans rfl, (blk_cell BK753.out 0).trans rfl⟩ (fun hHeld => ?_); refine with_tabW laws_FnExactTimesTrie.tab31 laws_FnExactTimesTrie.bits31 (fun HT_ HW_ => ?_)
             generalize w182.drew = w183 at HO_767000 HO_771000 HO_775000 HO_780000 BK752 BK753 BK766 BK770 BK774 BK779 HB hHeld ⊢
             refine take_ (i := 0) (N := some 95) (v := ?_) (a' := ?_) #[true, false, false, false, false, false, false, false, false, false, false] rfl rfl (take_ofW HT_.out HW_.out (by kernel_rfl)) (fun _ _ _ h => h) (Or.inl ⟨by rfl, ?_⟩) hHeld ?_ ?_
             rotate_left
             ·rintro w' ⟨s0, s1⟩
              go_simp
              with_reducible rfl
             rotate_left
             ·simp only [Act.put, List.setIfInBounds_toArray, List.set_cons_zero, List.set_cons_succ, i64_w, i32_w]
              rfl
             refine take_ (i := 2) (N := some 97) (v := ?_) (a' := ?_) #[true, false, true, false, false, false, false, false, false, false, false] rfl rfl (take_ofW HT_.out HW_.out (by kernel_rfl)) (fun _ _ _ h => h) (Or.inl ⟨by rfl, ?_⟩) hHeld ?_ ?_
             rotate_left
             ·rintro w' ⟨s0, s1⟩
              go_simp
              with_reducible rfl
             rotate_left
             ·simp only [Act.put, List.setIfInBounds_toArray, List.set_cons_zero, List.set_cons_succ, i64_w, i32_w]
              rfl
             refine join_ (σ := Value × Value × Value × Nat) 2 #[true, true, true, true, true, true, true, true, true, false, false] (fun s_ => [(96, .agg #[s_.1]), (98, .agg #[s_.2.1]), (99, .tuple #[.agg #[s_.2.2.1], .bool t806]), (15, .pointer (some ⟨s_.2.2.2, 0, none⟩)), (94, .tuple #[.agg #[s_.2.2.1], .bool t806]), (100, .agg #[s_.2.2.1]), (101, .bool t806)]) (fun s_ w' => (w'.cell? ⟨gb752, 0, none⟩ = some (.slice A0_0 l0_0.length c0_0) ∧ w'.cell? ⟨gb753, 0, none⟩ = some (.slice A1_0 l1_0.length c1_0)) ∧ (Kd.R k76 76 w' w.heap.size (fun k_ => some k_ ≠ (s_.2.1 : Value).ownBlock ∧ some k_ ≠ (s_.2.2.1 : Value).ownBlock ∧ some k_ ≠ (.slice Ao41 t762.length co41 : Value).ownBlock ∧ some k_ ≠ (.slice Ao47 t790.length co47 : Value).ownBlock ∧ some k_ ≠ (.slice Ao56 t792.length co56 : Value).ownBlock ∧ some k_ ≠ (.slice Ao65 t775.length co65 : Value).ownBlock) s_.1 t797) ∧ (Kd.R k76 76 w' w.heap.size (fun k_ => some k_ ≠ (s_.1 : Value).ownBlock ∧ some k_ ≠ (s_.2.2.1 : Value).ownBlock ∧ some k_ ≠ (.slice Ao41 t762.length co41 : Value).ownBlock ∧ some k_ ≠ (.slice Ao47 t790.length co47 : Value).ownBlock ∧ some k_ ≠ (.slice Ao56 t792.length co56 : Value).ownBlock ∧ some k_ ≠ (.slice Ao65 t775.length co65 : Value).ownBlock) s_.2.1 t800) ∧ (Kd.R k76 76 w' w.heap.size (fun k_ => some k_ ≠ (s_.1 : Value).ownBlock ∧ some k_ ≠ (s_.2.1 : Value).ownBlock ∧ some k_ ≠ (.slice Ao41 t762.length co41 : Value).ownBlock ∧ some k_ ≠ (.slice Ao47 t790.length co47 : Value).ownBlock ∧ some k_ ≠ (.slice Ao56 t792.length co56 : Value).ownBlock ∧ some k_ ≠ (.slice Ao65 t775.length co65 : Value).ownBlock) s_.2.2.1 t803) ∧ (Kd.R k76 76 w' w.heap.size (fun k_ => some k_ ≠ (s_.1 : Value).ownBlock ∧ some k_ ≠ (s_.2.1 : Value).ownBlock ∧ some k_ ≠ (s_.2.2.1 : Value).ownBlock ∧ some k_ ≠ (.slice Ao47 t790.length co47 : Value).ownBlock ∧ some k_ ≠ (.slice Ao56 t792.length co56 : Value).ownBlock ∧ some k_ ≠ (.slice Ao65 t775.length co65 : Value).ownBlock) (.slice Ao41 t762.length co41) t762) ∧ (Kd.R k76 76 w' w.heap.size (fun k_ => some k_ ≠ (s_.1 : Value).ownBlock ∧ some k_ ≠ (s_.2.1 : Value).ownBlock ∧ some k_ ≠ (s_.2.2.1 : Value).ownBlock ∧ some k_ ≠ (.slice Ao41 t762.length co41 : Value).ownBlock ∧ some k_ ≠ (.slice Ao56 t792.length co56 : Value).ownBlock ∧ some k_ ≠ (.slice Ao65 t775.length co65 : Value).ownBlock) (.slice Ao47 t790.length co47) t790) ∧ (Kd.R k76 76 w' w.heap.size (fun k_ => some k_ ≠ (s_.1 : Value).ownBlock ∧ some k_ ≠ (s_.2.1 : Value).ownBlock ∧ some k_ ≠ (s_.2.2.1 : Value).ownBlock ∧ some k_ ≠ (.slice Ao41 t762.length co41 : Value).ownBlock ∧ some k_ ≠ (.slice Ao47 t790.length co47 : Value).ownBlock ∧ some k_ ≠ (.slice Ao65 t775.length co65 : Value).ownBlock) (.slice Ao56 t792.length co56) t792) ∧ (Kd.R k76 76 w' w.heap.size (fun k_ => some k_ ≠ (s_.1 : Value).ownBlock ∧ some k_ ≠ (s_.2.1 : Value).ownBlock ∧ some k_ ≠ (s_.2.2.1 : Value).ownBlock ∧ some k_ ≠ (.slice Ao41 t762.length co41 : Value).ownBlock ∧ some k_ ≠ (.slice Ao47 t790.length co47 : Value).ownBlock ∧ some k_ ≠ (.slice Ao56 t792.length co56 : Value).ownBlock) (.slice Ao65 t775.length co65) t795) ∧ (w'.heap[gb752]? = some (.cells #[.slice A0_0 l0_0.length c0_0] 36 (0, 0))) ∧ (w'.heap[gb753]? = some (.cells #[.slice A1_0 l1_0.length c1_0] 36 (0, 0))) ∧ (w'.heap[gb766]? = some (.cells #[.slice Ao41 t762.length co41] 26 (0, 0))) ∧ (w'.heap[gb770]? = some (.cells #[.slice Ao47 t790.length co47] 26 (0, 0))) ∧ (w'.heap[gb774]? = some (.cells #[.slice Ao56 t792.length co56] 26 (0, 0))) ∧ (w'.heap[gb779]? = some (.cells #[.slice Ao65 t775.length co65] 26 (0, 0))) ∧ (w'.heap[s_.2.2.2]? = some (.cells #[.slice none 0 0] 26 (0, 0))) ∧ (w.heap.size ≤ s_.2.2.2) ∧ (w.heap.size ≤ s_.2.2.2) ∧ (gb752 ≠ s_.2.2.2) ∧ (s_.2.2.2 ≠ gb752) ∧ (gb753 ≠ s_.2.2.2) ∧ (s_.2.2.2 ≠ gb753) ∧ (gb766 ≠ s_.2.2.2) ∧ (s_.2.2.2 ≠ gb766) ∧ (gb770 ≠ s_.2.2.2) ∧ (s_.2.2.2 ≠ gb770) ∧ (gb774 ≠ s_.2.2.2) ∧ (s_.2.2.2 ≠ gb774) ∧ (gb779 ≠ s_.2.2.2) ∧ (s_.2.2.2 ≠ gb779) ∧ (Below w.heap.size w w')) ?_ ?_
             rotate_left
             ·intro hCont
              refine two_ (i := 1) (j := 8) (Ni := some 96) (Nj := some 15) #[true, true, true, false, false, false, false, false, false, false, false] #[true, false, true, false, false, false, false, false, true, false, false] rfl rfl rfl rfl (two_of HT_.out (by kernel_rfl)) (by decide) (by decide) (fun K hK => ?_) (fun K hK => ?_)
              ·skip
               refine goes_ Tryd.func23 (by kernel_rfl) rfl #[.agg #[.slice A0_0 l0_0.length c0_0]] (by rfl) rfl rfl (by (try simp only [List.map_toArray, List.map_cons, List.map_nil]); first | done | rfl | (simp only [List.length_drop, List.length_take]; rfl)) ?_
               with_reducible refine (laws_toTrie.calls kj106 _ _ l0_0 t797 _ ?side1 ?side2 A170.out).mono ?_
               (case side1 => exact (Kd.C_below HR0_0.out HB.out))
               (case side2 => exact HC0_0.out)
               rintro e w184 ⟨v798, rfl, ho0, hb⟩
               refine ⟨_, rfl, ?_⟩
               have n0_ := Aside0.mk (Kd.R_elder' HO_767000.out (Kd.R_base ho0) hb)
               have n1_ := Aside0.mk (Kd.R_elder' HO_771000.out (Kd.R_base ho0) hb)
               have n2_ := Aside0.mk (Kd.R_elder' HO_775000.out (Kd.R_base ho0) hb)
               have n3_ := Aside0.mk (Kd.R_elder' HO_780000.out (Kd.R_base ho0) hb)
               have n4_ := Aside0.mk (Kd.R_lower (Kd.R_new' (Kd.R_new' (Kd.R_new' (Kd.R_new' ho0 (Kd.R_lt HO_767000.out)) (Kd.R_lt HO_771000.out)) (Kd.R_lt HO_775000.out)) (Kd.R_lt HO_780000.out)) (below_size HB.out))
               have n5_ := Aside0.mk (blk_below BK752.out hb)
               have n6_ := Aside0.mk (blk_below BK753.out hb)
               have n7_ := Aside0.mk (blk_below BK766.out hb)
               have n8_ := Aside0.mk (blk_below BK770.out hb)
               have n9_ := Aside0.mk (blk_below BK774.out hb)
               have n10_ := Aside0.mk (blk_below BK779.out hb)
               have n11_ := Aside0.mk (below_step HB.out hb)
               revert n0_ n1_ n2_ n3_ n4_ n5_ n6_ n7_ n8_ n9_ n10_ n11_
               clear HO_767000 HO_771000 HO_775000 HO_780000 BK752 BK753 BK766 BK770 BK774 BK779 HB
               intro HO_767000 HO_771000 HO_775000 HO_780000 HO799 BK752 BK753 BK766 BK770 BK774 BK779 HB
               (try clear hb)
               (try clear hb2)
               (try clear hk)
               (try clear hi)
               (try clear ho0)
               refine hK.out _ _ ⟨(blk_cell BK752.out 0).trans rfl, (blk_cell BK753.out 0).trans rfl⟩ (fun hHeld => ?_)
               clear hK K
               refine norm_ (a' := ?_) ?_ ?_
               rotate_left
               ·show Act.put _ (some 96) _ = _
                simp only [Act.put, List.setIfInBounds_toArray, List.set_cons_zero, List.set_cons_succ, i64_w, i32_w]
                rfl
               refine two_ (i := 3) (j := 8) (Ni := some 98) (Nj := some 15) #[true, true, true, true, false, false, false, false, false, false, false] #[true, true, true, false, false, false, false, false, true, false, false] rfl rfl rfl rfl (two_of HT_.out (by kernel_rfl)) (by decide) (by decide) (fun K hK => ?_) (fun K hK => ?_)
               ·skip
                refine goes_ Tryd.func23 (by kernel_rfl) rfl #[.agg #[.slice A1_0 l1_0.length c1_0]] (by rfl) rfl rfl (by (try simp only [List.map_toArray, List.map_cons, List.map_nil]); first | done | rfl | (simp only [List.length_drop, List.length_take]; rfl)) ?_
                with_reducible refine (laws_toTrie.calls kj106 _ _ l1_0 t800 _ ?side1 ?side2 A171.out).mono ?_
                (case side1 => exact (Kd.C_below HR1_0.out HB.out))
                (case side2 => exact HC1_0.out)
                rintro e w185 ⟨v801, rfl, ho0, hb⟩
                refine ⟨_, rfl, ?_⟩
                have n0_ := Aside0.mk (Kd.R_elder' HO_767000.out (Kd.R_base ho0) hb)
                have n1_ := Aside0.mk (Kd.R_elder' HO_771000.out (Kd.R_base ho0) hb)
                have n2_ := Aside0.mk (Kd.R_elder' HO_775000.out (Kd.R_base ho0) hb)
                have n3_ := Aside0.mk (Kd.R_elder' HO_780000.out (Kd.R_base ho0) hb)
                have n4_ := Aside0.mk (Kd.R_elder' HO799.out (Kd.R_base ho0) hb)
                have n5_ := Aside0.mk (Kd.R_lower (Kd.R_new' (Kd.R_new' (Kd.R_new' (Kd.R_new' (Kd.R_new' ho0 (Kd.R_lt HO_767000.out)) (Kd.R_lt HO_771000.out)) (Kd.R_lt HO_775000.out)) (Kd.R_lt HO_780000.out)) (Kd.R_lt HO799.out)) (below_size HB.out))
                have n6_ := Aside0.mk (blk_below BK752.out hb)
                have n7_ := Aside0.mk (blk_below BK753.out hb)
                have n8_ := Aside0.mk (blk_below BK766.out hb)
                have n9_ := Aside0.mk (blk_below BK770.out hb)
                have n10_ := Aside0.mk (blk_below BK774.out hb)
                have n11_ := Aside0.mk (blk_below BK779.out hb)
                have n12_ := Aside0.mk (below_step HB.out hb)
                revert n0_ n1_ n2_ n3_ n4_ n5_ n6_ n7_ n8_ n9_ n10_ n11_ n12_
                clear HO_767000 HO_771000 HO_775000 HO_780000 HO799 BK752 BK753 BK766 BK770 BK774 BK779 HB
                intro HO_767000 HO_771000 HO_775000 HO_780000 HO799 HO802 BK752 BK753 BK766 BK770 BK774 BK779 HB
                (try clear hb)
                (try clear hb2)
                (try clear hk)
                (try clear hi)
                (try clear ho0)
                obtain ⟨Ao186, co186, eo186⟩ := Kd.R_slice HO799.out
                (first | subst eo186 | (injection eo186 with f1_ f2_ f3_; have f4_ := f1_.symm; have f5_ := f3_.symm; clear f1_ f2_ f3_; subst f4_; subst f5_))
                obtain ⟨Ao187, co187, eo187⟩ := Kd.R_slice HO802.out
                (first | subst eo187 | (injection eo187 with f1_ f2_ f3_; have f4_ := f1_.symm; have f5_ := f3_.symm; clear f1_ f2_ f3_; subst f4_; subst f5_))
                refine hK.out _ _ ⟨(blk_cell BK752.out 0).trans rfl, (blk_cell BK753.out 0).trans rfl⟩ (fun hHeld => ?_)
                clear hK K
                refine norm_ (a' := ?_) ?_ ?_
                rotate_left
                ·show Act.put _ (some 98) _ = _
                 simp only [Act.put, List.setIfInBounds_toArray, List.set_cons_zero, List.set_cons_succ, i64_w, i32_w]
                 rfl
                refine two_ (i := 4) (j := 8) (Ni := some 99) (Nj := some 15) #[true, true, true, true, true, false, false, false, false, false, false] #[true, true, true, true, false, false, false, false, true, false, false] rfl rfl rfl rfl (two_of HT_.out (by kernel_rfl)) (by decide) (by decide) (fun K hK => ?_) (fun K hK => ?_)
                ·skip
                 refine goes_ Tryd.func34 (by kernel_rfl) rfl #[.agg #[.slice Ao186 t797.length co186], .agg #[.slice Ao187 t800.length co187]] (by rfl) rfl rfl (by (try simp only [List.map_toArray, List.map_cons, List.map_nil]); first | done | rfl | (simp only [List.length_drop, List.length_take]; rfl)) ?_
                 with_reducible refine (impl_TimesTrie.calls kj106 _ _ t797 _ _ t800 t803 t806 _ ?side1 ?side2 ?side3 ?side4 A172.out).mono ?_
                 (case side1 => exact (Kd.R_reads' HO799.out).2.2)
                 (case side2 => exact (Kd.R_reads' HO799.out).2.1)
                 (case side3 => exact (Kd.R_reads' HO802.out).2.2)
                 (case side4 => exact (Kd.R_reads' HO802.out).2.1)
                 rintro e w188 ⟨v804, rfl, ho0, hb⟩
                 refine ⟨_, rfl, ?_⟩
                 have n0_ := Aside0.mk (Kd.R_elder' HO_767000.out (Kd.R_base ho0) hb)
                 have n1_ := Aside0.mk (Kd.R_elder' HO_771000.out (Kd.R_base ho0) hb)
                 have n2_ := Aside0.mk (Kd.R_elder' HO_775000.out (Kd.R_base ho0) hb)
                 have n3_ := Aside0.mk (Kd.R_elder' HO_780000.out (Kd.R_base ho0) hb)
                 have n4_ := Aside0.mk (Kd.R_elder' HO799.out (Kd.R_base ho0) hb)
                 have n5_ := Aside0.mk (Kd.R_elder' HO802.out (Kd.R_base ho0) hb)
                 have n6_ := Aside0.mk (Kd.R_lower (Kd.R_new' (Kd.R_new' (Kd.R_new' (Kd.R_new' (Kd.R_new' (Kd.R_new' ho0 (Kd.R_lt HO_767000.out)) (Kd.R_lt HO_771000.out)) (Kd.R_lt HO_775000.out)) (Kd.R_lt HO_780000.out)) (Kd.R_lt HO799.out)) (Kd.R_lt HO802.out)) (below_size HB.out))
                 have n7_ := Aside0.mk (blk_below BK752.out hb)
                 have n8_ := Aside0.mk (blk_below BK753.out hb)
                 have n9_ := Aside0.mk (blk_below BK766.out hb)
                 have n10_ := Aside0.mk (blk_below BK770.out hb)
                 have n11_ := Aside0.mk (blk_below BK774.out hb)
                 have n12_ := Aside0.mk (blk_below BK779.out hb)
                 have n13_ := Aside0.mk (below_step HB.out hb)
                 revert n0_ n1_ n2_ n3_ n4_ n5_ n6_ n7_ n8_ n9_ n10_ n11_ n12_ n13_
                 clear HO_767000 HO_771000 HO_775000 HO_780000 HO799 HO802 BK752 BK753 BK766 BK770 BK774 BK779 HB
                 intro HO_767000 HO_771000 HO_775000 HO_780000 HO799 HO802 HO805 BK752 BK753 BK766 BK770 BK774 BK779 HB
                 (try clear hb)
                 (try clear hb2)
                 (try clear hk)
                 (try clear hi)
                 (try clear ho0)
                 refine hK.out _ _ ⟨(blk_cell BK752.out 0).trans rfl, (blk_cell BK753.out 0).trans rfl⟩ (fun hHeld => ?_)
                 clear hK K
                 refine norm_ (a' := ?_) ?_ ?_
                 rotate_left
                 ·show Act.put _ (some 99) _ = _
                  simp only [Act.put, List.setIfInBounds_toArray, List.set_cons_zero, List.set_cons_succ, i64_w, i32_w]
                  rfl
                 refine pure_ (i := 5) (N := some 94) (v := ?_) (a' := ?_) #[true, true, true, true, true, true, false, false, false, false, false] rfl rfl (any_of HT_.out (by kernel_rfl)) (fun _ _ _ h => h) (Or.inl ⟨by rfl, ?_⟩) ?_ ?_
                 rotate_left
                 ·intro w'
                  go_simp
                  with_reducible rfl
                 rotate_left
                 ·simp only [Act.put, List.setIfInBounds_toArray, List.set_cons_zero, List.set_cons_succ, i64_w, i32_w]
                  rfl
                 refine pure_ (i := 6) (N := some 100) (v := ?_) (a' := ?_) #[true, true, true, true, true, true, true, false, false, false, false] rfl rfl (any_of HT_.out (by kernel_rfl)) (fun _ _ _ h => h) (Or.inl ⟨by rfl, ?_⟩) ?_ ?_
                 rotate_left
                 ·intro w'
                  go_simp
                  with_reducible rfl
                 rotate_left
                 ·simp only [Act.put, List.setIfInBounds_toArray, List.set_cons_zero, List.set_cons_succ, i64_w, i32_w]
                  rfl
                 refine pure_ (i := 7) (N := some 101) (v := ?_) (a' := ?_) #[true, true, true, true, true, true, true, true, false, false, false] rfl rfl (any_of HT_.out (by kernel_rfl)) (fun _ _ _ h => h) (Or.inl ⟨by rfl, ?_⟩) ?_ ?_
                 rotate_left
                 ·intro w'
                  go_simp
                  with_reducible rfl
                 rotate_left
                 ·simp only [Act.put, List.setIfInBounds_toArray, List.set_cons_zero, List.set_cons_succ, i64_w, i32_w]
                  rfl
                 refine one_ (i := 8) (N := some 15) #[true, true, true, true, true, true, true, true, true, false, false] rfl rfl (one_of HT_.out (by kernel_rfl)) (by decide) (fun K hK => ?_)
                 refine box_step ?hg (N := 15) ?hd (cs := #[.slice none 0 0]) (t := 26) ?hr ?_; (case hd => rfl); (case hg => rfl); (case hr => first | (go_simp; done) | (go_simp; rfl))
                 intro gb807 hg w189 hbox hb
                 have n0_ := Aside0.mk (Kd.R_below HO_767000.out hb)
                 have n1_ := Aside0.mk (Kd.R_below HO_771000.out hb)
                 have n2_ := Aside0.mk (Kd.R_below HO_775000.out hb)
                 have n3_ := Aside0.mk (Kd.R_below HO_780000.out hb)
                 have n4_ := Aside0.mk (Kd.R_below HO799.out hb)
                 have n5_ := Aside0.mk (Kd.R_below HO802.out hb)
                 have n6_ := Aside0.mk (Kd.R_below HO805.out hb)
                 have n7_ := Aside0.mk (blk_below BK752.out hb)
                 have n8_ := Aside0.mk (blk_below BK753.out hb)
                 have n9_ := Aside0.mk (blk_below BK766.out hb)
                 have n10_ := Aside0.mk (blk_below BK770.out hb)
                 have n11_ := Aside0.mk (blk_below BK774.out hb)
                 have n12_ := Aside0.mk (blk_below BK779.out hb)
                 have n13_ := Aside0.mk (below_step HB.out hb)
                 have n14_ := Aside0.mk (hbox)
                 have n15_ := Aside0.mk ((by rw [hg]; exact (below_size HB.out) : w.heap.size ≤ gb807))
                 have n16_ := Aside0.mk ((by rw [hg]; exact (below_size HB.out) : w.heap.size ≤ gb807))
                 have n17_ := Aside0.mk ((by rw [hg]; exact Nat.ne_of_lt (blk_lt BK752.out) : gb752 ≠ gb807))
                 have n18_ := Aside0.mk ((by rw [hg]; exact Nat.ne_of_gt (blk_lt BK752.out) : gb807 ≠ gb752))
                 have n19_ := Aside0.mk ((by rw [hg]; exact Nat.ne_of_lt (blk_lt BK753.out) : gb753 ≠ gb807))
                 have n20_ := Aside0.mk ((by rw [hg]; exact Nat.ne_of_gt (blk_lt BK753.out) : gb807 ≠ gb753))
                 have n21_ := Aside0.mk ((by rw [hg]; exact Nat.ne_of_lt (blk_lt BK766.out) : gb766 ≠ gb807))
                 have n22_ := Aside0.mk ((by rw [hg]; exact Nat.ne_of_gt (blk_lt BK766.out) : gb807 ≠ gb766))
                 have n23_ := Aside0.mk ((by rw [hg]; exact Nat.ne_of_lt (blk_lt BK770.out) : gb770 ≠ gb807))
                 have n24_ := Aside0.mk ((by rw [hg]; exact Nat.ne_of_gt (blk_lt BK770.out) : gb807 ≠ gb770))
                 have n25_ := Aside0.mk ((by rw [hg]; exact Nat.ne_of_lt (blk_lt BK774.out) : gb774 ≠ gb807))
                 have n26_ := Aside0.mk ((by rw [hg]; exact Nat.ne_of_gt (blk_lt BK774.out) : gb807 ≠ gb774))
                 have n27_ := Aside0.mk ((by rw [hg]; exact Nat.ne_of_lt (blk_lt BK779.out) : gb779 ≠ gb807))
                 have n28_ := Aside0.mk ((by rw [hg]; exact Nat.ne_of_gt (blk_lt BK779.out) : gb807 ≠ gb779))
                 revert n0_ n1_ n2_ n3_ n4_ n5_ n6_ n7_ n8_ n9_ n10_ n11_ n12_ n13_ n14_ n15_ n16_ n17_ n18_ n19_ n20_ n21_ n22_ n23_ n24_ n25_ n26_ n27_ n28_
                 clear HO_767000 HO_771000 HO_775000 HO_780000 HO799 HO802 HO805 BK752 BK753 BK766 BK770 BK774 BK779 HB
                 intro HO_767000 HO_771000 HO_775000 HO_780000 HO799 HO802 HO805 BK752 BK753 BK766 BK770 BK774 BK779 HB BK807 GW807 GE807 NB752_807 NB807_752 NB753_807 NB807_753 NB766_807 NB807_766 NB770_807 NB807_770 NB774_807 NB807_774 NB779_807 NB807_779
                 clear hb hbox hg
                 refine hK.out _ _ ⟨(blk_cell BK752.out 0).trans rfl, (blk_cell BK753.out 0).trans rfl⟩ (fun hHeld => ?_)
                 clear hK K
                 refine norm_ (a' := ?_) ?_ ?_
                 rotate_left
                 ·show Act.put _ (some 15) _ = _
                  simp only [Act.put, List.setIfInBounds_toArray, List.set_cons_zero, List.set_cons_succ, i64_w, i32_w]
                  rfl
                 exact norm_ (by simp only [putAll, Act.put, List.setIfInBounds_toArray, List.set_cons_zero, List.set_cons_succ]) (hCont (.slice Ao186 t797.length co186, .slice Ao187 t800.length co187, v804, gb807) _ ⟨hHeld, (Kd.R_mono HO799.out (fun _ hk => ⟨hk.1.2, ⟨hk.2, ⟨hk.1.1.1.1.1.2, ⟨hk.1.1.1.1.2, ⟨hk.1.1.1.2, hk.1.1.2⟩⟩⟩⟩⟩)), (Kd.R_mono HO802.out (fun _ hk => ⟨hk.1.2, ⟨hk.2, ⟨hk.1.1.1.1.1.2, ⟨hk.1.1.1.1.2, ⟨hk.1.1.1.2, hk.1.1.2⟩⟩⟩⟩⟩)), (Kd.R_mono HO805.out (fun _ hk => ⟨hk.1.2, ⟨hk.2, ⟨hk.1.1.1.1.1.2, ⟨hk.1.1.1.1.2, ⟨hk.1.1.1.2, hk.1.1.2⟩⟩⟩⟩⟩)), (Kd.R_mono HO_767000.out (fun _ hk => ⟨hk.1.1.2, ⟨hk.1.2, ⟨hk.2, ⟨hk.1.1.1.1, ⟨hk.1.1.1.2.1, hk.1.1.1.2.2⟩⟩⟩⟩⟩)), (Kd.R_mono HO_771000.out (fun _ hk => ⟨hk.1.1.2, ⟨hk.1.2, ⟨hk.2, ⟨hk.1.1.1.1, ⟨hk.1.1.1.2.1, hk.1.1.1.2.2⟩⟩⟩⟩⟩)), (Kd.R_mono HO_775000.out (fun _ hk => ⟨hk.1.1.2, ⟨hk.1.2, ⟨hk.2, ⟨hk.1.1.1.1, ⟨hk.1.1.1.2.1, hk.1.1.1.2.2⟩⟩⟩⟩⟩)), (Kd.R_mono HO_780000.out (fun _ hk => ⟨hk.1.1.2, ⟨hk.1.2, ⟨hk.2, ⟨hk.1.1.1.1, ⟨hk.1.1.1.2.1, hk.1.1.1.2.2⟩⟩⟩⟩⟩)), BK752.out, BK753.out, BK766.out, BK770.out, BK774.out, BK779.out, BK807.out, GW807.out, GE807.out, NB752_807.out, NB807_752.out, NB753_807.out, NB807_753.out, NB766_807.out, NB807_766.out, NB770_807.out, NB807_770.out, NB774_807.out, NB807_774.out, NB779_807.out, NB807_779.out, HB.out⟩)
                ·skip
                 refine box_step ?hg (N := 15) ?hd (cs := #[.slice none 0 0]) (t := 26) ?hr ?_; (case hd => rfl); (case hg => rfl); (case hr => first | (go_simp; done) | (go_simp; rfl))
                 intro gb807 hg w186 hbox hb
                 have n0_ := Aside0.mk (Kd.R_below HO_767000.out hb)
                 have n1_ := Aside0.mk (Kd.R_below HO_771000.out hb)
                 have n2_ := Aside0.mk (Kd.R_below HO_775000.out hb)
                 have n3_ := Aside0.mk (Kd.R_below HO_780000.out hb)
                 have n4_ := Aside0.mk (Kd.R_below HO799.out hb)
                 have n5_ := Aside0.mk (Kd.R_below HO802.out hb)
                 have n6_ := Aside0.mk (blk_below BK752.out hb)
                 have n7_ := Aside0.mk (blk_below BK753.out hb)
                 have n8_ := Aside0.mk (blk_below BK766.out hb)
                 have n9_ := Aside0.mk (blk_below BK770.out hb)
                 have n10_ := Aside0.mk (blk_below BK774.out hb)
                 have n11_ := Aside0.mk (blk_below BK779.out hb)
                 have n12_ := Aside0.mk (below_step HB.out hb)
                 have n13_ := Aside0.mk (hbox)
                 have n14_ := Aside0.mk ((by rw [hg]; exact (below_size HB.out) : w.heap.size ≤ gb807))
                 have n15_ := Aside0.mk ((by rw [hg]; exact (below_size HB.out) : w.heap.size ≤ gb807))
                 have n16_ := Aside0.mk ((by rw [hg]; exact Nat.ne_of_lt (blk_lt BK752.out) : gb752 ≠ gb807))
                 have n17_ := Aside0.mk ((by rw [hg]; exact Nat.ne_of_gt (blk_lt BK752.out) : gb807 ≠ gb752))
                 have n18_ := Aside0.mk ((by rw [hg]; exact Nat.ne_of_lt (blk_lt BK753.out) : gb753 ≠ gb807))
                 have n19_ := Aside0.mk ((by rw [hg]; exact Nat.ne_of_gt (blk_lt BK753.out) : gb807 ≠ gb753))
                 have n20_ := Aside0.mk ((by rw [hg]; exact Nat.ne_of_lt (blk_lt BK766.out) : gb766 ≠ gb807))
                 have n21_ := Aside0.mk ((by rw [hg]; exact Nat.ne_of_gt (blk_lt BK766.out) : gb807 ≠ gb766))
                 have n22_ := Aside0.mk ((by rw [hg]; exact Nat.ne_of_lt (blk_lt BK770.out) : gb770 ≠ gb807))
                 have n23_ := Aside0.mk ((by rw [hg]; exact Nat.ne_of_gt (blk_lt BK770.out) : gb807 ≠ gb770))
                 have n24_ := Aside0.mk ((by rw [hg]; exact Nat.ne_of_lt (blk_lt BK774.out) : gb774 ≠ gb807))
                 have n25_ := Aside0.mk ((by rw [hg]; exact Nat.ne_of_gt (blk_lt BK774.out) : gb807 ≠ gb774))
                 have n26_ := Aside0.mk ((by rw [hg]; exact Nat.ne_of_lt (blk_lt BK779.out) : gb779 ≠ gb807))
                 have n27_ := Aside0.mk ((by rw [hg]; exact Nat.ne_of_gt (blk_lt BK779.out) : gb807 ≠ gb779))
                 revert n0_ n1_ n2_ n3_ n4_ n5_ n6_ n7_ n8_ n9_ n10_ n11_ n12_ n13_ n14_ n15_ n16_ n17_ n18_ n19_ n20_ n21_ n22_ n23_ n24_ n25_ n26_ n27_
                 clear HO_767000 HO_771000 HO_775000 HO_780000 HO799 HO802 BK752 BK753 BK766 BK770 BK774 BK779 HB
                 intro HO_767000 HO_771000 HO_775000 HO_780000 HO799 HO802 BK752 BK753 BK766 BK770 BK774 BK779 HB BK807 GW807 GE807 NB752_807 NB807_752 NB753_807 NB807_753 NB766_807 NB807_766 NB770_807 NB807_770 NB774_807 NB807_774 NB779_807 NB807_779
                 clear hb hbox hg
                 obtain ⟨Ao187, co187, eo187⟩ := Kd.R_slice HO799.out
                 (first | subst eo187 | (injection eo187 with f1_ f2_ f3_; have f4_ := f1_.symm; have f5_ := f3_.symm; clear f1_ f2_ f3_; subst f4_; subst f5_))
                 obtain ⟨Ao188, co188, eo188⟩ := Kd.R_slice HO802.out
                 (first | subst eo188 | (injection eo188 with f1_ f2_ f3_; have f4_ := f1_.symm; have f5_ := f3_.symm; clear f1_ f2_ f3_; subst f4_; subst f5_))
                 refine hK.out _ _ ⟨(blk_cell BK752.out 0).trans rfl, (blk_cell BK753.out 0).trans rfl⟩ (fun hHeld => ?_)
                 clear hK K
                 refine norm_ (a' := ?_) ?_ ?_
                 rotate_left
                 ·show Act.put _ (some 15) _ = _
                  simp only [Act.put, List.setIfInBounds_toArray, List.set_cons_zero, List.set_cons_succ, i64_w, i32_w]
                  rfl
                 refine one_ (i := 4) (N := some 99) #[true, true, true, true, true, false, false, false, true, false, false] rfl rfl (one_of HT_.out (by kernel_rfl)) (by decide) (fun K hK => ?_)
                 refine goes_ Tryd.func34 (by kernel_rfl) rfl #[.agg #[.slice Ao187 t797.length co187], .agg #[.slice Ao188 t800.length co188]] (by rfl) rfl rfl (by (try simp only [List.map_toArray, List.map_cons, List.map_nil]); first | done | rfl | (simp only [List.length_drop, List.length_take]; rfl)) ?_
                 with_reducible refine (impl_TimesTrie.calls kj106 _ _ t797 _ _ t800 t803 t806 _ ?side1 ?side2 ?side3 ?side4 A172.out).mono ?_
                 (case side1 => exact (Kd.R_reads' HO799.out).2.2)
                 (case side2 => exact (Kd.R_reads' HO799.out).2.1)
                 (case side3 => exact (Kd.R_reads' HO802.out).2.2)
                 (case side4 => exact (Kd.R_reads' HO802.out).2.1)
                 rintro e w189 ⟨v804, rfl, ho0, hb⟩
                 refine ⟨_, rfl, ?_⟩
                 have n0_ := Aside0.mk (Kd.R_elder' HO_767000.out (Kd.R_base ho0) hb)
                 have n1_ := Aside0.mk (Kd.R_elder' HO_771000.out (Kd.R_base ho0) hb)
                 have n2_ := Aside0.mk (Kd.R_elder' HO_775000.out (Kd.R_base ho0) hb)
                 have n3_ := Aside0.mk (Kd.R_elder' HO_780000.out (Kd.R_base ho0) hb)
                 have n4_ := Aside0.mk (Kd.R_elder' HO799.out (Kd.R_base ho0) hb)
                 have n5_ := Aside0.mk (Kd.R_elder' HO802.out (Kd.R_base ho0) hb)
                 have n6_ := Aside0.mk (Kd.R_lower (Kd.R_new' (Kd.R_new' (Kd.R_new' (Kd.R_new' (Kd.R_new' (Kd.R_new' ho0 (Kd.R_lt HO_767000.out)) (Kd.R_lt HO_771000.out)) (Kd.R_lt HO_775000.out)) (Kd.R_lt HO_780000.out)) (Kd.R_lt HO799.out)) (Kd.R_lt HO802.out)) (below_size HB.out))
                 have n7_ := Aside0.mk (blk_below BK752.out hb)
                 have n8_ := Aside0.mk (blk_below BK753.out hb)
                 have n9_ := Aside0.mk (blk_below BK766.out hb)
                 have n10_ := Aside0.mk (blk_below BK770.out hb)
                 have n11_ := Aside0.mk (blk_below BK774.out hb)
                 have n12_ := Aside0.mk (blk_below BK779.out hb)
                 have n13_ := Aside0.mk (blk_below BK807.out hb)
                 have n14_ := Aside0.mk (below_step HB.out hb)
                 revert n0_ n1_ n2_ n3_ n4_ n5_ n6_ n7_ n8_ n9_ n10_ n11_ n12_ n13_ n14_
                 clear HO_767000 HO_771000 HO_775000 HO_780000 HO799 HO802 BK752 BK753 BK766 BK770 BK774 BK779 BK807 HB
                 intro HO_767000 HO_771000 HO_775000 HO_780000 HO799 HO802 HO805 BK752 BK753 BK766 BK770 BK774 BK779 BK807 HB
                 (try clear hb)
                 (try clear hb2)
                 (try clear hk)
                 (try clear hi)
                 (try clear ho0)
                 refine hK.out _ _ ⟨(blk_cell BK752.out 0).trans rfl, (blk_cell BK753.out 0).trans rfl⟩ (fun hHeld => ?_)
                 clear hK K
                 refine norm_ (a' := ?_) ?_ ?_
                 rotate_left
                 ·show Act.put _ (some 99) _ = _
                  simp only [Act.put, List.setIfInBounds_toArray, List.set_cons_zero, List.set_cons_succ, i64_w, i32_w]
                  rfl
                 refine pure_ (i := 5) (N := some 94) (v := ?_) (a' := ?_) #[true, true, true, true, true, true, false, false, true, false, false] rfl rfl (any_of HT_.out (by kernel_rfl)) (fun _ _ _ h => h) (Or.inl ⟨by rfl, ?_⟩) ?_ ?_
                 rotate_left
                 ·intro w'
                  go_simp
                  with_reducible rfl
                 rotate_left
                 ·simp only [Act.put, List.setIfInBounds_toArray, List.set_cons_zero, List.set_cons_succ, i64_w, i32_w]
                  rfl
                 refine pure_ (i := 6) (N := some 100) (v := ?_) (a' := ?_) #[true, true, true, true, true, true, true, false, true, false, false] rfl rfl (any_of HT_.out (by kernel_rfl)) (fun _ _ _ h => h) (Or.inl ⟨by rfl, ?_⟩) ?_ ?_
                 rotate_left
                 ·intro w'
                  go_simp
                  with_reducible rfl
                 rotate_left
                 ·simp only [Act.put, List.setIfInBounds_toArray, List.set_cons_zero, List.set_cons_succ, i64_w, i32_w]
                  rfl
                 refine pure_ (i := 7) (N := some 101) (v := ?_) (a' := ?_) #[true, true, true, true, true, true, true, true, true, false, false] rfl rfl (any_of HT_.out (by kernel_rfl)) (fun _ _ _ h => h) (Or.inl ⟨by rfl, ?_⟩) ?_ ?_
                 rotate_left
                 ·intro w'
                  go_simp
                  with_reducible rfl
                 rotate_left
                 ·simp only [Act.put, List.setIfInBounds_toArray, List.set_cons_zero, List.set_cons_succ, i64_w, i32_w]
                  rfl
                 exact norm_ (by simp only [putAll, Act.put, List.setIfInBounds_toArray, List.set_cons_zero, List.set_cons_succ]) (hCont (.slice Ao187 t797.length co187, .slice Ao188 t800.length co188, v804, gb807) _ ⟨hHeld, (Kd.R_mono HO799.out (fun _ hk => ⟨hk.1.2, ⟨hk.2, ⟨hk.1.1.1.1.1.2, ⟨hk.1.1.1.1.2, ⟨hk.1.1.1.2, hk.1.1.2⟩⟩⟩⟩⟩)), (Kd.R_mono HO802.out (fun _ hk => ⟨hk.1.2, ⟨hk.2, ⟨hk.1.1.1.1.1.2, ⟨hk.1.1.1.1.2, ⟨hk.1.1.1.2, hk.1.1.2⟩⟩⟩⟩⟩)), (Kd.R_mono HO805.out (fun _ hk => ⟨hk.1.2, ⟨hk.2, ⟨hk.1.1.1.1.1.2, ⟨hk.1.1.1.1.2, ⟨hk.1.1.1.2, hk.1.1.2⟩⟩⟩⟩⟩)), (Kd.R_mono HO_767000.out (fun _ hk => ⟨hk.1.1.2, ⟨hk.1.2, ⟨hk.2, ⟨hk.1.1.1.1, ⟨hk.1.1.1.2.1, hk.1.1.1.2.2⟩⟩⟩⟩⟩)), (Kd.R_mono HO_771000.out (fun _ hk => ⟨hk.1.1.2, ⟨hk.1.2, ⟨hk.2, ⟨hk.1.1.1.1, ⟨hk.1.1.1.2.1, hk.1.1.1.2.2⟩⟩⟩⟩⟩)), (Kd.R_mono HO_775000.out (fun _ hk => ⟨hk.1.1.2, ⟨hk.1.2, ⟨hk.2, ⟨hk.1.1.1.1, ⟨hk.1.1.1.2.1, hk.1.1.1.2.2⟩⟩⟩⟩⟩)), (Kd.R_mono HO_780000.out (fun _ hk => ⟨hk.1.1.2, ⟨hk.1.2, ⟨hk.2, ⟨hk.1.1.1.1, ⟨hk.1.1.1.2.1, hk.1.1.1.2.2⟩⟩⟩⟩⟩)), BK752.out, BK753.out, BK766.out, BK770.out, BK774.out, BK779.out, BK807.out, GW807.out, GE807.out, NB752_807.out, NB807_752.out, NB753_807.out, NB807_753.out, NB766_807.out, NB807_766.out, NB770_807.out, NB807_770.out, NB774_807.out, NB807_774.out, NB779_807.out, NB807_779.out, HB.out⟩)
               ·skip
                refine box_step ?hg (N := 15) ?hd (cs := #[.slice none 0 0]) (t := 26) ?hr ?_; (case hd => rfl); (case hg => rfl); (case hr => first | (go_simp; done) | (go_simp; rfl))
                intro gb807 hg w185 hbox hb
                have n0_ := Aside0.mk (Kd.R_below HO_767000.out hb)
                have n1_ := Aside0.mk (Kd.R_below HO_771000.out hb)
                have n2_ := Aside0.mk (Kd.R_below HO_775000.out hb)
                have n3_ := Aside0.mk (Kd.R_below HO_780000.out hb)
                have n4_ := Aside0.mk (Kd.R_below HO799.out hb)
                have n5_ := Aside0.mk (blk_below BK752.out hb)
                have n6_ := Aside0.mk (blk_below BK753.out hb)
                have n7_ := Aside0.mk (blk_below BK766.out hb)
                have n8_ := Aside0.mk (blk_below BK770.out hb)
                have n9_ := Aside0.mk (blk_below BK774.out hb)
                have n10_ := Aside0.mk (blk_below BK779.out hb)
                have n11_ := Aside0.mk (below_step HB.out hb)
                have n12_ := Aside0.mk (hbox)
                have n13_ := Aside0.mk ((by rw [hg]; exact (below_size HB.out) : w.heap.size ≤ gb807))
                have n14_ := Aside0.mk ((by rw [hg]; exact (below_size HB.out) : w.heap.size ≤ gb807))
                have n15_ := Aside0.mk ((by rw [hg]; exact Nat.ne_of_lt (blk_lt BK752.out) : gb752 ≠ gb807))
                have n16_ := Aside0.mk ((by rw [hg]; exact Nat.ne_of_gt (blk_lt BK752.out) : gb807 ≠ gb752))
                have n17_ := Aside0.mk ((by rw [hg]; exact Nat.ne_of_lt (blk_lt BK753.out) : gb753 ≠ gb807))
                have n18_ := Aside0.mk ((by rw [hg]; exact Nat.ne_of_gt (blk_lt BK753.out) : gb807 ≠ gb753))
                have n19_ := Aside0.mk ((by rw [hg]; exact Nat.ne_of_lt (blk_lt BK766.out) : gb766 ≠ gb807))
                have n20_ := Aside0.mk ((by rw [hg]; exact Nat.ne_of_gt (blk_lt BK766.out) : gb807 ≠ gb766))
                have n21_ := Aside0.mk ((by rw [hg]; exact Nat.ne_of_lt (blk_lt BK770.out) : gb770 ≠ gb807))
                have n22_ := Aside0.mk ((by rw [hg]; exact Nat.ne_of_gt (blk_lt BK770.out) : gb807 ≠ gb770))
                have n23_ := Aside0.mk ((by rw [hg]; exact Nat.ne_of_lt (blk_lt BK774.out) : gb774 ≠ gb807))
                have n24_ := Aside0.mk ((by rw [hg]; exact Nat.ne_of_gt (blk_lt BK774.out) : gb807 ≠ gb774))
                have n25_ := Aside0.mk ((by rw [hg]; exact Nat.ne_of_lt (blk_lt BK779.out) : gb779 ≠ gb807))
                have n26_ := Aside0.mk ((by rw [hg]; exact Nat.ne_of_gt (blk_lt BK779.out) : gb807 ≠ gb779))
                revert n0_ n1_ n2_ n3_ n4_ n5_ n6_ n7_ n8_ n9_ n10_ n11_ n12_ n13_ n14_ n15_ n16_ n17_ n18_ n19_ n20_ n21_ n22_ n23_ n24_ n25_ n26_
                clear HO_767000 HO_771000 HO_775000 HO_780000 HO799 BK752 BK753 BK766 BK770 BK774 BK779 HB
                intro HO_767000 HO_771000 HO_775000 HO_780000 HO799 BK752 BK753 BK766 BK770 BK774 BK779 HB BK807 GW807 GE807 NB752_807 NB807_752 NB753_807 NB807_753 NB766_807 NB807_766 NB770_807 NB807_770 NB774_807 NB807_774 NB779_807 NB807_779
                clear hb hbox hg
                refine hK.out _ _ ⟨(blk_cell BK752.out 0).trans rfl, (blk_cell BK753.out 0).trans rfl⟩ (fun hHeld => ?_)
                clear hK K
                refine norm_ (a' := ?_) ?_ ?_
                rotate_left
                ·show Act.put _ (some 15) _ = _
                 simp only [Act.put, List.setIfInBounds_toArray, List.set_cons_zero, List.set_cons_succ, i64_w, i32_w]
                 rfl
                refine one_ (i := 3) (N := some 98) #[true, true, true, true, false, false, false, false, true, false, false] rfl rfl (one_of HT_.out (by kernel_rfl)) (by decide) (fun K hK => ?_)
                refine goes_ Tryd.func23 (by kernel_rfl) rfl #[.agg #[.slice A1_0 l1_0.length c1_0]] (by rfl) rfl rfl (by (try simp only [List.map_toArray, List.map_cons, List.map_nil]); first | done | rfl | (simp only [List.length_drop, List.length_take]; rfl)) ?_
                with_reducible refine (laws_toTrie.calls kj106 _ _ l1_0 t800 _ ?side1 ?side2 A171.out).mono ?_
                (case side1 => exact (Kd.C_below HR1_0.out HB.out))
                (case side2 => exact HC1_0.out)
                rintro e w186 ⟨v801, rfl, ho0, hb⟩
                refine ⟨_, rfl, ?_⟩
                have n0_ := Aside0.mk (Kd.R_elder' HO_767000.out (Kd.R_base ho0) hb)
                have n1_ := Aside0.mk (Kd.R_elder' HO_771000.out (Kd.R_base ho0) hb)
                have n2_ := Aside0.mk (Kd.R_elder' HO_775000.out (Kd.R_base ho0) hb)
                have n3_ := Aside0.mk (Kd.R_elder' HO_780000.out (Kd.R_base ho0) hb)
                have n4_ := Aside0.mk (Kd.R_elder' HO799.out (Kd.R_base ho0) hb)
                have n5_ := Aside0.mk (Kd.R_lower (Kd.R_new' (Kd.R_new' (Kd.R_new' (Kd.R_new' (Kd.R_new' ho0 (Kd.R_lt HO_767000.out)) (Kd.R_lt HO_771000.out)) (Kd.R_lt HO_775000.out)) (Kd.R_lt HO_780000.out)) (Kd.R_lt HO799.out)) (below_size HB.out))
                have n6_ := Aside0.mk (blk_below BK752.out hb)
                have n7_ := Aside0.mk (blk_below BK753.out hb)
                have n8_ := Aside0.mk (blk_below BK766.out hb)
                have n9_ := Aside0.mk (blk_below BK770.out hb)
                have n10_ := Aside0.mk (blk_below BK774.out hb)
                have n11_ := Aside0.mk (blk_below BK779.out hb)
                have n12_ := Aside0.mk (blk_below BK807.out hb)
                have n13_ := Aside0.mk (below_step HB.out hb)
                revert n0_ n1_ n2_ n3_ n4_ n5_ n6_ n7_ n8_ n9_ n10_ n11_ n12_ n13_
                clear HO_767000 HO_771000 HO_775000 HO_780000 HO799 BK752 BK753 BK766 BK770 BK774 BK779 BK807 HB
                intro HO_767000 HO_771000 HO_775000 HO_780000 HO799 HO802 BK752 BK753 BK766 BK770 BK774 BK779 BK807 HB
                (try clear hb)
                (try clear hb2)
                (try clear hk)
                (try clear hi)
                (try clear ho0)
                obtain ⟨Ao187, co187, eo187⟩ := Kd.R_slice HO799.out
                (first | subst eo187 | (injection eo187 with f1_ f2_ f3_; have f4_ := f1_.symm; have f5_ := f3_.symm; clear f1_ f2_ f3_; subst f4_; subst f5_))
                obtain ⟨Ao188, co188, eo188⟩ := Kd.R_slice HO802.out
                (first | subst eo188 | (injection eo188 with f1_ f2_ f3_; have f4_ := f1_.symm; have f5_ := f3_.symm; clear f1_ f2_ f3_; subst f4_; subst f5_))
                refine hK.out _ _ ⟨(blk_cell BK752.out 0).trans rfl, (blk_cell BK753.out 0).trans rfl⟩ (fun hHeld => ?_)
                clear hK K
                refine norm_ (a' := ?_) ?_ ?_
                rotate_left
                ·show Act.put _ (some 98) _ = _
                 simp only [Act.put, List.setIfInBounds_toArray, List.set_cons_zero, List.set_cons_succ, i64_w, i32_w]
                 rfl
                refine one_ (i := 4) (N := some 99) #[true, true, true, true, true, false, false, false, true, false, false] rfl rfl (one_of HT_.out (by kernel_rfl)) (by decide) (fun K hK => ?_)
                refine goes_ Tryd.func34 (by kernel_rfl) rfl #[.agg #[.slice Ao187 t797.length co187], .agg #[.slice Ao188 t800.length co188]] (by rfl) rfl rfl (by (try simp only [List.map_toArray, List.map_cons, List.map_nil]); first | done | rfl | (simp only [List.length_drop, List.length_take]; rfl)) ?_
                with_reducible refine (impl_TimesTrie.calls kj106 _ _ t797 _ _ t800 t803 t806 _ ?side1 ?side2 ?side3 ?side4 A172.out).mono ?_
                (case side1 => exact (Kd.R_reads' HO799.out).2.2)
                (case side2 => exact (Kd.R_reads' HO799.out).2.1)
                (case side3 => exact (Kd.R_reads' HO802.out).2.2)
                (case side4 => exact (Kd.R_reads' HO802.out).2.1)
                rintro e w189 ⟨v804, rfl, ho0, hb⟩
                refine ⟨_, rfl, ?_⟩
                have n0_ := Aside0.mk (Kd.R_elder' HO_767000.out (Kd.R_base ho0) hb)
                have n1_ := Aside0.mk (Kd.R_elder' HO_771000.out (Kd.R_base ho0) hb)
                have n2_ := Aside0.mk (Kd.R_elder' HO_775000.out (Kd.R_base ho0) hb)
                have n3_ := Aside0.mk (Kd.R_elder' HO_780000.out (Kd.R_base ho0) hb)
                have n4_ := Aside0.mk (Kd.R_elder' HO799.out (Kd.R_base ho0) hb)
                have n5_ := Aside0.mk (Kd.R_elder' HO802.out (Kd.R_base ho0) hb)
                have n6_ := Aside0.mk (Kd.R_lower (Kd.R_new' (Kd.R_new' (Kd.R_new' (Kd.R_new' (Kd.R_new' (Kd.R_new' ho0 (Kd.R_lt HO_767000.out)) (Kd.R_lt HO_771000.out)) (Kd.R_lt HO_775000.out)) (Kd.R_lt HO_780000.out)) (Kd.R_lt HO799.out)) (Kd.R_lt HO802.out)) (below_size HB.out))
                have n7_ := Aside0.mk (blk_below BK752.out hb)
                have n8_ := Aside0.mk (blk_below BK753.out hb)
                have n9_ := Aside0.mk (blk_below BK766.out hb)
                have n10_ := Aside0.mk (blk_below BK770.out hb)
                have n11_ := Aside0.mk (blk_below BK774.out hb)
                have n12_ := Aside0.mk (blk_below BK779.out hb)
                have n13_ := Aside0.mk (blk_below BK807.out hb)
                have n14_ := Aside0.mk (below_step HB.out hb)
                revert n0_ n1_ n2_ n3_ n4_ n5_ n6_ n7_ n8_ n9_ n10_ n11_ n12_ n13_ n14_
                clear HO_767000 HO_771000 HO_775000 HO_780000 HO799 HO802 BK752 BK753 BK766 BK770 BK774 BK779 BK807 HB
                intro HO_767000 HO_771000 HO_775000 HO_780000 HO799 HO802 HO805 BK752 BK753 BK766 BK770 BK774 BK779 BK807 HB
                (try clear hb)
                (try clear hb2)
                (try clear hk)
                (try clear hi)
                (try clear ho0)
                refine hK.out _ _ ⟨(blk_cell BK752.out 0).trans rfl, (blk_cell BK753.out 0).trans rfl⟩ (fun hHeld => ?_)
                clear hK K
                refine norm_ (a' := ?_) ?_ ?_
                rotate_left
                ·show Act.put _ (some 99) _ = _
                 simp only [Act.put, List.setIfInBounds_toArray, List.set_cons_zero, List.set_cons_succ, i64_w, i32_w]
                 rfl
                refine pure_ (i := 5) (N := some 94) (v := ?_) (a' := ?_) #[true, true, true, true, true, true, false, false, true, false, false] rfl rfl (any_of HT_.out (by kernel_rfl)) (fun _ _ _ h => h) (Or.inl ⟨by rfl, ?_⟩) ?_ ?_
                rotate_left
                ·intro w'
                 go_simp
                 with_reducible rfl
                rotate_left
                ·simp only [Act.put, List.setIfInBounds_toArray, List.set_cons_zero, List.set_cons_succ, i64_w, i32_w]
                 rfl
                refine pure_ (i := 6) (N := some 100) (v := ?_) (a' := ?_) #[true, true, true, true, true, true, true, false, true, false, false] rfl rfl (any_of HT_.out (by kernel_rfl)) (fun _ _ _ h => h) (Or.inl ⟨by rfl, ?_⟩) ?_ ?_
                rotate_left
                ·intro w'
                 go_simp
                 with_reducible rfl
                rotate_left
                ·simp only [Act.put, List.setIfInBounds_toArray, List.set_cons_zero, List.set_cons_succ, i64_w, i32_w]
                 rfl
                refine pure_ (i := 7) (N := some 101) (v := ?_) (a' := ?_) #[true, true, true, true, true, true, true, true, true, false, false] rfl rfl (any_of HT_.out (by kernel_rfl)) (fun _ _ _ h => h) (Or.inl ⟨by rfl, ?_⟩) ?_ ?_
                rotate_left
                ·intro w'
                 go_simp
                 with_reducible rfl
                rotate_left
                ·simp only [Act.put, List.setIfInBounds_toArray, List.set_cons_zero, List.set_cons_succ, i64_w, i32_w]
                 rfl
                exact norm_ (by simp only [putAll, Act.put, List.setIfInBounds_toArray, List.set_cons_zero, List.set_cons_succ]) (hCont (.slice Ao187 t797.length co187, .slice Ao188 t800.length co188, v804, gb807) _ ⟨hHeld, (Kd.R_mono HO799.out (fun _ hk => ⟨hk.1.2, ⟨hk.2, ⟨hk.1.1.1.1.1.2, ⟨hk.1.1.1.1.2, ⟨hk.1.1.1.2, hk.1.1.2⟩⟩⟩⟩⟩)), (Kd.R_mono HO802.out (fun _ hk => ⟨hk.1.2, ⟨hk.2, ⟨hk.1.1.1.1.1.2, ⟨hk.1.1.1.1.2, ⟨hk.1.1.1.2, hk.1.1.2⟩⟩⟩⟩⟩)), (Kd.R_mono HO805.out (fun _ hk => ⟨hk.1.2, ⟨hk.2, ⟨hk.1.1.1.1.1.2, ⟨hk.1.1.1.1.2, ⟨hk.1.1.1.2, hk.1.1.2⟩⟩⟩⟩⟩)), (Kd.R_mono HO_767000.out (fun _ hk => ⟨hk.1.1.2, ⟨hk.1.2, ⟨hk.2, ⟨hk.1.1.1.1, ⟨hk.1.1.1.2.1, hk.1.1.1.2.2⟩⟩⟩⟩⟩)), (Kd.R_mono HO_771000.out (fun _ hk => ⟨hk.1.1.2, ⟨hk.1.2, ⟨hk.2, ⟨hk.1.1.1.1, ⟨hk.1.1.1.2.1, hk.1.1.1.2.2⟩⟩⟩⟩⟩)), (Kd.R_mono HO_775000.out (fun _ hk => ⟨hk.1.1.2, ⟨hk.1.2, ⟨hk.2, ⟨hk.1.1.1.1, ⟨hk.1.1.1.2.1, hk.1.1.1.2.2⟩⟩⟩⟩⟩)), (Kd.R_mono HO_780000.out (fun _ hk => ⟨hk.1.1.2, ⟨hk.1.2, ⟨hk.2, ⟨hk.1.1.1.1, ⟨hk.1.1.1.2.1, hk.1.1.1.2.2⟩⟩⟩⟩⟩)), BK752.out, BK753.out, BK766.out, BK770.out, BK774.out, BK779.out, BK807.out, GW807.out, GE807.out, NB752_807.out, NB807_752.out, NB753_807.out, NB807_753.out, NB766_807.out, NB807_766.out, NB770_807.out, NB807_770.out, NB774_807.out, NB807_774.out, NB779_807.out, NB807_779.out, HB.out⟩)
              ·skip
               refine box_step ?hg (N := 15) ?hd (cs := #[.slice none 0 0]) (t := 26) ?hr ?_; (case hd => rfl); (case hg => rfl); (case hr => first | (go_simp; done) | (go_simp; rfl))
               intro gb807 hg w184 hbox hb
               have n0_ := Aside0.mk (Kd.R_below HO_767000.out hb)
               have n1_ := Aside0.mk (Kd.R_below HO_771000.out hb)
               have n2_ := Aside0.mk (Kd.R_below HO_775000.out hb)
               have n3_ := Aside0.mk (Kd.R_below HO_780000.out hb)
               have n4_ := Aside0.mk (blk_below BK752.out hb)
               have n5_ := Aside0.mk (blk_below BK753.out hb)
               have n6_ := Aside0.mk (blk_below BK766.out hb)
               have n7_ := Aside0.mk (blk_below BK770.out hb)
               have n8_ := Aside0.mk (blk_below BK774.out hb)
               have n9_ := Aside0.mk (blk_below BK779.out hb)
               have n10_ := Aside0.mk (below_step HB.out hb)
               have n11_ := Aside0.mk (hbox)
               have n12_ := Aside0.mk ((by rw [hg]; exact (below_size HB.out) : w.heap.size ≤ gb807))
               have n13_ := Aside0.mk ((by rw [hg]; exact (below_size HB.out) : w.heap.size ≤ gb807))
               have n14_ := Aside0.mk ((by rw [hg]; exact Nat.ne_of_lt (blk_lt BK752.out) : gb752 ≠ gb807))
               have n15_ := Aside0.mk ((by rw [hg]; exact Nat.ne_of_gt (blk_lt BK752.out) : gb807 ≠ gb752))
               have n16_ := Aside0.mk ((by rw [hg]; exact Nat.ne_of_lt (blk_lt BK753.out) : gb753 ≠ gb807))
               have n17_ := Aside0.mk ((by rw [hg]; exact Nat.ne_of_gt (blk_lt BK753.out) : gb807 ≠ gb753))
               have n18_ := Aside0.mk ((by rw [hg]; exact Nat.ne_of_lt (blk_lt BK766.out) : gb766 ≠ gb807))
               have n19_ := Aside0.mk ((by rw [hg]; exact Nat.ne_of_gt (blk_lt BK766.out) : gb807 ≠ gb766))
               have n20_ := Aside0.mk ((by rw [hg]; exact Nat.ne_of_lt (blk_lt BK770.out) : gb770 ≠ gb807))
               have n21_ := Aside0.mk ((by rw [hg]; exact Nat.ne_of_gt (blk_lt BK770.out) : gb807 ≠ gb770))
               have n22_ := Aside0.mk ((by rw [hg]; exact Nat.ne_of_lt (blk_lt BK774.out) : gb774 ≠ gb807))
               have n23_ := Aside0.mk ((by rw [hg]; exact Nat.ne_of_gt (blk_lt BK774.out) : gb807 ≠ gb774))
               have n24_ := Aside0.mk ((by rw [hg]; exact Nat.ne_of_lt (blk_lt BK779.out) : gb779 ≠ gb807))
               have n25_ := Aside0.mk ((by rw [hg]; exact Nat.ne_of_gt (blk_lt BK779.out) : gb807 ≠ gb779))
               revert n0_ n1_ n2_ n3_ n4_ n5_ n6_ n7_ n8_ n9_ n10_ n11_ n12_ n13_ n14_ n15_ n16_ n17_ n18_ n19_ n20_ n21_ n22_ n23_ n24_ n25_
               clear HO_767000 HO_771000 HO_775000 HO_780000 BK752 BK753 BK766 BK770 BK774 BK779 HB
               intro HO_767000 HO_771000 HO_775000 HO_780000 BK752 BK753 BK766 BK770 BK774 BK779 HB BK807 GW807 GE807 NB752_807 NB807_752 NB753_807 NB807_753 NB766_807 NB807_766 NB770_807 NB807_770 NB774_807 NB807_774 NB779_807 NB807_779
               clear hb hbox hg
               refine hK.out _ _ ⟨(blk_cell BK752.out 0).trans rfl, (blk_cell BK753.out 0).trans rfl⟩ (fun hHeld => ?_)
               clear hK K
               refine norm_ (a' := ?_) ?_ ?_
               rotate_left
               ·show Act.put _ (some 15) _ = _
                simp only [Act.put, List.setIfInBounds_toArray, List.set_cons_zero, List.set_cons_succ, i64_w, i32_w]
                rfl
               refine one_ (i := 1) (N := some 96) #[true, true, true, false, false, false, false, false, true, false, false] rfl rfl (one_of HT_.out (by kernel_rfl)) (by decide) (fun K hK => ?_)
               refine goes_ Tryd.func23 (by kernel_rfl) rfl #[.agg #[.slice A0_0 l0_0.length c0_0]] (by rfl) rfl rfl (by (try simp only [List.map_toArray, List.map_cons, List.map_nil]); first | done | rfl | (simp only [List.length_drop, List.length_take]; rfl)) ?_
               with_reducible refine (laws_toTrie.calls kj106 _ _ l0_0 t797 _ ?side1 ?side2 A170.out).mono ?_
               (case side1 => exact (Kd.C_below HR0_0.out HB.out))
               (case side2 => exact HC0_0.out)
               rintro e w185 ⟨v798, rfl, ho0, hb⟩
               refine ⟨_, rfl, ?_⟩
               have n0_ := Aside0.mk (Kd.R_elder' HO_767000.out (Kd.R_base ho0) hb)
               have n1_ := Aside0.mk (Kd.R_elder' HO_771000.out (Kd.R_base ho0) hb)
               have n2_ := Aside0.mk (Kd.R_elder' HO_775000.out (Kd.R_base ho0) hb)
               have n3_ := Aside0.mk (Kd.R_elder' HO_780000.out (Kd.R_base ho0) hb)
               have n4_ := Aside0.mk (Kd.R_lower (Kd.R_new' (Kd.R_new' (Kd.R_new' (Kd.R_new' ho0 (Kd.R_lt HO_767000.out)) (Kd.R_lt HO_771000.out)) (Kd.R_lt HO_775000.out)) (Kd.R_lt HO_780000.out)) (below_size HB.out))
               have n5_ := Aside0.mk (blk_below BK752.out hb)
               have n6_ := Aside0.mk (blk_below BK753.out hb)
               have n7_ := Aside0.mk (blk_below BK766.out hb)
               have n8_ := Aside0.mk (blk_below BK770.out hb)
               have n9_ := Aside0.mk (blk_below BK774.out hb)
               have n10_ := Aside0.mk (blk_below BK779.out hb)
               have n11_ := Aside0.mk (blk_below BK807.out hb)
               have n12_ := Aside0.mk (below_step HB.out hb)
               revert n0_ n1_ n2_ n3_ n4_ n5_ n6_ n7_ n8_ n9_ n10_ n11_ n12_
               clear HO_767000 HO_771000 HO_775000 HO_780000 BK752 BK753 BK766 BK770 BK774 BK779 BK807 HB
               intro HO_767000 HO_771000 HO_775000 HO_780000 HO799 BK752 BK753 BK766 BK770 BK774 BK779 BK807 HB
               (try clear hb)
               (try clear hb2)
               (try clear hk)
               (try clear hi)
               (try clear ho0)
               refine hK.out _ _ ⟨(blk_cell BK752.out 0).trans rfl, (blk_cell BK753.out 0).trans rfl⟩ (fun hHeld => ?_)
               clear hK K
               refine norm_ (a' := ?_) ?_ ?_
               rotate_left
               ·show Act.put _ (some 96) _ = _
                simp only [Act.put, List.setIfInBounds_toArray, List.set_cons_zero, List.set_cons_succ, i64_w, i32_w]
                rfl
               refine one_ (i := 3) (N := some 98) #[true, true, true, true, false, false, false, false, true, false, false] rfl rfl (one_of HT_.out (by kernel_rfl)) (by decide) (fun K hK => ?_)
               refine goes_ Tryd.func23 (by kernel_rfl) rfl #[.agg #[.slice A1_0 l1_0.length c1_0]] (by rfl) rfl rfl (by (try simp only [List.map_toArray, List.map_cons, List.map_nil]); first | done | rfl | (simp only [List.length_drop, List.length_take]; rfl)) ?_
               with_reducible refine (laws_toTrie.calls kj106 _ _ l1_0 t800 _ ?side1 ?side2 A171.out).mono ?_
               (case side1 => exact (Kd.C_below HR1_0.out HB.out))
               (case side2 => exact HC1_0.out)
               rintro e w186 ⟨v801, rfl, ho0, hb⟩
               refine ⟨_, rfl, ?_⟩
               have n0_ := Aside0.mk (Kd.R_elder' HO_767000.out (Kd.R_base ho0) hb)
               have n1_ := Aside0.mk (Kd.R_elder' HO_771000.out (Kd.R_base ho0) hb)
               have n2_ := Aside0.mk (Kd.R_elder' HO_775000.out (Kd.R_base ho0) hb)
               have n3_ := Aside0.mk (Kd.R_elder' HO_780000.out (Kd.R_base ho0) hb)
               have n4_ := Aside0.mk (Kd.R_elder' HO799.out (Kd.R_base ho0) hb)
               have n5_ := Aside0.mk (Kd.R_lower (Kd.R_new' (Kd.R_new' (Kd.R_new' (Kd.R_new' (Kd.R_new' ho0 (Kd.R_lt HO_767000.out)) (Kd.R_lt HO_771000.out)) (Kd.R_lt HO_775000.out)) (Kd.R_lt HO_780000.out)) (Kd.R_lt HO799.out)) (below_size HB.out))
               have n6_ := Aside0.mk (blk_below BK752.out hb)
               have n7_ := Aside0.mk (blk_below BK753.out hb)
               have n8_ := Aside0.mk (blk_below BK766.out hb)
               have n9_ := Aside0.mk (blk_below BK770.out hb)
               have n10_ := Aside0.mk (blk_below BK774.out hb)
               have n11_ := Aside0.mk (blk_below BK779.out hb)
               have n12_ := Aside0.mk (blk_below BK807.out hb)
               have n13_ := Aside0.mk (below_step HB.out hb)
               revert n0_ n1_ n2_ n3_ n4_ n5_ n6_ n7_ n8_ n9_ n10_ n11_ n12_ n13_
               clear HO_767000 HO_771000 HO_775000 HO_780000 HO799 BK752 BK753 BK766 BK770 BK774 BK779 BK807 HB
               intro HO_767000 HO_771000 HO_775000 HO_780000 HO799 HO802 BK752 BK753 BK766 BK770 BK774 BK779 BK807 HB
               (try clear hb)
               (try clear hb2)
               (try clear hk)
               (try clear hi)
               (try clear ho0)
               obtain ⟨Ao187, co187, eo187⟩ := Kd.R_slice HO799.out
               (first | subst eo187 | (injection eo187 with f1_ f2_ f3_; have f4_ := f1_.symm; have f5_ := f3_.symm; clear f1_ f2_ f3_; subst f4_; subst f5_))
               obtain ⟨Ao188, co188, eo188⟩ := Kd.R_slice HO802.out
               (first | subst eo188 | (injection eo188 with f1_ f2_ f3_; have f4_ := f1_.symm; have f5_ := f3_.symm; clear f1_ f2_ f3_; subst f4_; subst f5_))
               refine hK.out _ _ ⟨(blk_cell BK752.out 0).trans rfl, (blk_cell BK753.out 0).trans rfl⟩ (fun hHeld => ?_)
               clear hK K
               refine norm_ (a' := ?_) ?_ ?_
               rotate_left
               ·show Act.put _ (some 98) _ = _
                simp only [Act.put, List.setIfInBounds_toArray, List.set_cons_zero, List.set_cons_succ, i64_w, i32_w]
                rfl
               refine one_ (i := 4) (N := some 99) #[true, true, true, true, true, false, false, false, true, false, false] rfl rfl (one_of HT_.out (by kernel_rfl)) (by decide) (fun K hK => ?_)
               refine goes_ Tryd.func34 (by kernel_rfl) rfl #[.agg #[.slice Ao187 t797.length co187], .agg #[.slice Ao188 t800.length co188]] (by rfl) rfl rfl (by (try simp only [List.map_toArray, List.map_cons, List.map_nil]); first | done | rfl | (simp only [List.length_drop, List.length_take]; rfl)) ?_
               with_reducible refine (impl_TimesTrie.calls kj106 _ _ t797 _ _ t800 t803 t806 _ ?side1 ?side2 ?side3 ?side4 A172.out).mono ?_
               (case side1 => exact (Kd.R_reads' HO799.out).2.2)
               (case side2 => exact (Kd.R_reads' HO799.out).2.1)
               (case side3 => exact (Kd.R_reads' HO802.out).2.2)
               (case side4 => exact (Kd.R_reads' HO802.out).2.1)
               rintro e w189 ⟨v804, rfl, ho0, hb⟩
               refine ⟨_, rfl, ?_⟩
               have n0_ := Aside0.mk (Kd.R_elder' HO_767000.out (Kd.R_base ho0) hb)
               have n1_ := Aside0.mk (Kd.R_elder' HO_771000.out (Kd.R_base ho0) hb)
               have n2_ := Aside0.mk (Kd.R_elder' HO_775000.out (Kd.R_base ho0) hb)
               have n3_ := Aside0.mk (Kd.R_elder' HO_780000.out (Kd.R_base ho0) hb)
               have n4_ := Aside0.mk (Kd.R_elder' HO799.out (Kd.R_base ho0) hb)
               have n5_ := Aside0.mk (Kd.R_elder' HO802.out (Kd.R_base ho0) hb)
               have n6_ := Aside0.mk (Kd.R_lower (Kd.R_new' (Kd.R_new' (Kd.R_new' (Kd.R_new' (Kd.R_new' (Kd.R_new' ho0 (Kd.R_lt HO_767000.out)) (Kd.R_lt HO_771000.out)) (Kd.R_lt HO_775000.out)) (Kd.R_lt HO_780000.out)) (Kd.R_lt HO799.out)) (Kd.R_lt HO802.out)) (below_size HB.out))
               have n7_ := Aside0.mk (blk_below BK752.out hb)
               have n8_ := Aside0.mk (blk_below BK753.out hb)
               have n9_ := Aside0.mk (blk_below BK766.out hb)
               have n10_ := Aside0.mk (blk_below BK770.out hb)
               have n11_ := Aside0.mk (blk_below BK774.out hb)
               have n12_ := Aside0.mk (blk_below BK779.out hb)
               have n13_ := Aside0.mk (blk_below BK807.out hb)
               have n14_ := Aside0.mk (below_step HB.out hb)
               revert n0_ n1_ n2_ n3_ n4_ n5_ n6_ n7_ n8_ n9_ n10_ n11_ n12_ n13_ n14_
               clear HO_767000 HO_771000 HO_775000 HO_780000 HO799 HO802 BK752 BK753 BK766 BK770 BK774 BK779 BK807 HB
               intro HO_767000 HO_771000 HO_775000 HO_780000 HO799 HO802 HO805 BK752 BK753 BK766 BK770 BK774 BK779 BK807 HB
               (try clear hb)
               (try clear hb2)
               (try clear hk)
               (try clear hi)
               (try clear ho0)
               refine hK.out _ _ ⟨(blk_cell BK752.out 0).trans rfl, (blk_cell BK753.out 0).trans rfl⟩ (fun hHeld => ?_)
               clear hK K
               refine norm_ (a' := ?_) ?_ ?_
               rotate_left
               ·show Act.put _ (some 99) _ = _
                simp only [Act.put, List.setIfInBounds_toArray, List.set_cons_zero, List.set_cons_succ, i64_w, i32_w]
                rfl
               refine pure_ (i := 5) (N := some 94) (v := ?_) (a' := ?_) #[true, true, true, true, true, true, false, false, true, false, false] rfl rfl (any_of HT_.out (by kernel_rfl)) (fun _ _ _ h => h) (Or.inl ⟨by rfl, ?_⟩) ?_ ?_
               rotate_left
               ·intro w'
                go_simp
                with_reducible rfl
               rotate_left
               ·simp only [Act.put, List.setIfInBounds_toArray, List.set_cons_zero, List.set_cons_succ, i64_w, i32_w]
                rfl
               refine pure_ (i := 6) (N := some 100) (v := ?_) (a' := ?_) #[true, true, true, true, true, true, true, false, true, false, false] rfl rfl (any_of HT_.out (by kernel_rfl)) (fun _ _ _ h => h) (Or.inl ⟨by rfl, ?_⟩) ?_ ?_
               rotate_left
               ·intro w'
                go_simp
                with_reducible rfl
               rotate_left
               ·simp only [Act.put, List.setIfInBounds_toArray, List.set_cons_zero, List.set_cons_succ, i64_w, i32_w]
                rfl
               refine pure_ (i := 7) (N := some 101) (v := ?_) (a' := ?_) #[true, true, true, true, true, true, true, true, true, false, false] rfl rfl (any_of HT_.out (by kernel_rfl)) (fun _ _ _ h => h) (Or.inl ⟨by rfl, ?_⟩) ?_ ?_
               rotate_left
               ·intro w'
                go_simp
                with_reducible rfl
               rotate_left
               ·simp only [Act.put, List.setIfInBounds_toArray, List.set_cons_zero, List.set_cons_succ, i64_w, i32_w]
                rfl
               exact norm_ (by simp only [putAll, Act.put, List.setIfInBounds_toArray, List.set_cons_zero, List.set_cons_succ]) (hCont (.slice Ao187 t797.length co187, .slice Ao188 t800.length co188, v804, gb807) _ ⟨hHeld, (Kd.R_mono HO799.out (fun _ hk => ⟨hk.1.2, ⟨hk.2, ⟨hk.1.1.1.1.1.2, ⟨hk.1.1.1.1.2, ⟨hk.1.1.1.2, hk.1.1.2⟩⟩⟩⟩⟩)), (Kd.R_mono HO802.out (fun _ hk => ⟨hk.1.2, ⟨hk.2, ⟨hk.1.1.1.1.1.2, ⟨hk.1.1.1.1.2, ⟨hk.1.1.1.2, hk.1.1.2⟩⟩⟩⟩⟩)), (Kd.R_mono HO805.out (fun _ hk => ⟨hk.1.2, ⟨hk.2, ⟨hk.1.1.1.1.1.2, ⟨hk.1.1.1.1.2, ⟨hk.1.1.1.2, hk.1.1.2⟩⟩⟩⟩⟩)), (Kd.R_mono HO_767000.out (fun _ hk => ⟨hk.1.1.2, ⟨hk.1.2, ⟨hk.2, ⟨hk.1.1.1.1, ⟨hk.1.1.1.2.1, hk.1.1.1.2.2⟩⟩⟩⟩⟩)), (Kd.R_mono HO_771000.out (fun _ hk => ⟨hk.1.1.2, ⟨hk.1.2, ⟨hk.2, ⟨hk.1.1.1.1, ⟨hk.1.1.1.2.1, hk.1.1.1.2.2⟩⟩⟩⟩⟩)), (Kd.R_mono HO_775000.out (fun _ hk => ⟨hk.1.1.2, ⟨hk.1.2, ⟨hk.2, ⟨hk.1.1.1.1, ⟨hk.1.1.1.2.1, hk.1.1.1.2.2⟩⟩⟩⟩⟩)), (Kd.R_mono HO_780000.out (fun _ hk => ⟨hk.1.1.2, ⟨hk.1.2, ⟨hk.2, ⟨hk.1.1.1.1, ⟨hk.1.1.1.2.1, hk.1.1.1.2.2⟩⟩⟩⟩⟩)), BK752.out, BK753.out, BK766.out, BK770.out, BK774.out, BK779.out, BK807.out, GW807.out, GE807.out, NB752_807.out, NB807_752.out, NB753_807.out, NB807_753.out, NB766_807.out, NB807_766.out, NB770_807.out, NB807_770.out, NB774_807.out, NB807_774.out, NB779_807.out, NB807_779.out, HB.out⟩)
             rintro ⟨v798, v801, v804, gb807⟩ w190 ⟨hS_, h0_, h1_, h2_, h3_, h4_, h5_, h6_, h7_, h8_, h9_, h10_, h11_, h12_, h13_, h14_, h15_, h16_, h17_, h18_, h19_, h20_, h21_, h22_, h23_, h24_, h25_, h26_, h27_, h28_⟩
             have n0_ : Aside0 (Kd.R k76 76 w190 w.heap.size (fun k_ => some k_ ≠ (v801 : Value).ownBlock ∧ some k_ ≠ (v804 : Value).ownBlock ∧ some k_ ≠ (.slice Ao41 t762.length co41 : Value).ownBlock ∧ some k_ ≠ (.slice Ao47 t790.length co47 : Value).ownBlock ∧ some k_ ≠ (.slice Ao56 t792.length co56 : Value).ownBlock ∧ some k_ ≠ (.slice Ao65 t775.length co65 : Value).ownBlock) v798 t797) := ⟨h0_⟩
             have n1_ : Aside0 (Kd.R k76 76 w190 w.heap.size (fun k_ => some k_ ≠ (v798 : Value).ownBlock ∧ some k_ ≠ (v804 : Value).ownBlock ∧ some k_ ≠ (.slice Ao41 t762.length co41 : Value).ownBlock ∧ some k_ ≠ (.slice Ao47 t790.length co47 : Value).ownBlock ∧ some k_ ≠ (.slice Ao56 t792.length co56 : Value).ownBlock ∧ some k_ ≠ (.slice Ao65 t775.length co65 : Value).ownBlock) v801 t800) := ⟨h1_⟩
             have n2_ : Aside0 (Kd.R k76 76 w190 w.heap.size (fun k_ => some k_ ≠ (v798 : Value).ownBlock ∧ some k_ ≠ (v801 : Value).ownBlock ∧ some k_ ≠ (.slice Ao41 t762.length co41 : Value).ownBlock ∧ some k_ ≠ (.slice Ao47 t790.length co47 : Value).ownBlock ∧ some k_ ≠ (.slice Ao56 t792.length co56 : Value).ownBlock ∧ some k_ ≠ (.slice Ao65 t775.length co65 : Value).ownBlock) v804 t803) := ⟨h2_⟩
             have n3_ : Aside0 (Kd.R k76 76 w190 w.heap.size (fun k_ => some k_ ≠ (v798 : Value).ownBlock ∧ some k_ ≠ (v801 : Value).ownBlock ∧ some k_ ≠ (v804 : Value).ownBlock ∧ some k_ ≠ (.slice Ao47 t790.length co47 : Value).ownBlock ∧ some k_ ≠ (.slice Ao56 t792.length co56 : Value).ownBlock ∧ some k_ ≠ (.slice Ao65 t775.length co65 : Value).ownBlock) (.slice Ao41 t762.length co41) t762) := ⟨h3_⟩
             have n4_ : Aside0 (Kd.R k76 76 w190 w.heap.size (fun k_ => some k_ ≠ (v798 : Value).ownBlock ∧ some k_ ≠ (v801 : Value).ownBlock ∧ some k_ ≠ (v804 : Value).ownBlock ∧ some k_ ≠ (.slice Ao41 t762.length co41 : Value).ownBlock ∧ some k_ ≠ (.slice Ao56 t792.length co56 : Value).ownBlock ∧ some k_ ≠ (.slice Ao65 t775.length co65 : Value).ownBlock) (.slice Ao47 t790.length co47) t790) := ⟨h4_⟩
             have n5_ : Aside0 (Kd.R k76 76 w190 w.heap.size (fun k_ => some k_ ≠ (v798 : Value).ownBlock ∧ some k_ ≠ (v801 : Value).ownBlock ∧ some k_ ≠ (v804 : Value).ownBlock ∧ some k_ ≠ (.slice Ao41 t762.length co41 : Value).ownBlock ∧ some k_ ≠ (.slice Ao47 t790.length co47 : Value).ownBlock ∧ some k_ ≠ (.slice Ao65 t775.length co65 : Value).ownBlock) (.slice Ao56 t792.length co56) t792) := ⟨h5_⟩
             have n6_ : Aside0 (Kd.R k76 76 w190 w.heap.size (fun k_ => some k_ ≠ (v798 : Value).ownBlock ∧ some k_ ≠ (v801 : Value).ownBlock ∧ some k_ ≠ (v804 : Value).ownBlock ∧ some k_ ≠ (.slice Ao41 t762.length co41 : Value).ownBlock ∧ some k_ ≠ (.slice Ao47 t790.length co47 : Value).ownBlock ∧ some k_ ≠ (.slice Ao56 t792.length co56 : Value).ownBlock) (.slice Ao65 t775.length co65) t795) := ⟨h6_⟩
             have n7_ : Aside0 (w190.heap[gb752]? = some (.cells #[.slice A0_0 l0_0.length c0_0] 36 (0, 0))) := ⟨h7_⟩
             have n8_ : Aside0 (w190.heap[gb753]? = some (.cells #[.slice A1_0 l1_0.length c1_0] 36 (0, 0))) := ⟨h8_⟩
             have n9_ : Aside0 (w190.heap[gb766]? = some (.cells #[.slice Ao41 t762.length co41] 26 (0, 0))) := ⟨h9_⟩
             have n10_ : Aside0 (w190.heap[gb770]? = some (.cells #[.slice Ao47 t790.length co47] 26 (0, 0))) := ⟨h10_⟩
             have n11_ : Aside0 (w190.heap[gb774]? = some (.cells #[.slice Ao56 t792.length co56] 26 (0, 0))) := ⟨h11_⟩
             have n12_ : Aside0 (w190.heap[gb779]? = some (.cells #[.slice Ao65 t775.length co65] 26 (0, 0))) := ⟨h12_⟩
             have n13_ : Aside0 (w190.heap[gb807]? = some (.cells #[.slice none 0 0] 26 (0, 0))) := ⟨h13_⟩
             have n14_ : Aside0 (w.heap.size ≤ gb807) := ⟨h14_⟩
             have n15_ : Aside0 (w.heap.size ≤ gb807) := ⟨h15_⟩
             have n16_ : Aside0 (gb752 ≠ gb807) := ⟨h16_⟩
             have n17_ : Aside0 (gb807 ≠ gb752) := ⟨h17_⟩
             have n18_ : Aside0 (gb753 ≠ gb807) := ⟨h18_⟩
             have n19_ : Aside0 (gb807 ≠ gb753) := ⟨h19_⟩
             have n20_ : Aside0 (gb766 ≠ gb807) := ⟨h20_⟩
             have n21_ : Aside0 (gb807 ≠ gb766) := ⟨h21_⟩
             have n22_ : Aside0 (gb770 ≠ gb807) := ⟨h22_⟩
             have n23_ : Aside0 (gb807 ≠ gb770) := ⟨h23_⟩
             have n24_ : Aside0 (gb774 ≠ gb807) := ⟨h24_⟩
             have n25_ : Aside0 (gb807 ≠ gb774) := ⟨h25_⟩
             have n26_ : Aside0 (gb779 ≠ gb807) := ⟨h26_⟩
             have n27_ : Aside0 (gb807 ≠ gb779) := ⟨h27_⟩
             have n28_ : Aside0 (Below w.heap.size w w190) := ⟨h28_⟩
             clear HO_767000
             clear HO_771000
             clear HO_775000
             clear HO_780000
             clear BK752
             clear BK753
             clear BK766
             clear BK770
             clear BK774
             clear BK779
             clear HB
             clear h0_ h1_ h2_ h3_ h4_ h5_ h6_ h7_ h8_ h9_ h10_ h11_ h12_ h13_ h14_ h15_ h16_ h17_ h18_ h19_ h20_ h21_ h22_ h23_ h24_ h25_ h26_ h27_ h28_
             have HO799 := n0_
             have HO802 := n1_
             have HO805 := n2_
             have HO_767000 := n3_
             have HO_771000 := n4_
             have HO_775000 := n5_
             have HO_780000 := n6_
             have BK752 := n7_
             have BK753 := n8_
             have BK766 := n9_
             have BK770 := n10_
             have BK774 := n11_
             have BK779 := n12_
             have BK807 := n13_
             have GW807 := n14_
             have GE807 := n15_
             have NB752_807 := n16_
             have NB807_752 := n17_
             have NB753_807 := n18_
             have NB807_753 := n19_
             have NB766_807 := n20_
             have NB807_766 := n21_
             have NB770_807 := n22_
             have NB807_770 := n23_
             have NB774_807 := n24_
             have NB807_774 := n25_
             have NB779_807 := n26_
             have NB807_779 := n27_
             have HB := n28_
             clear n0_ n1_ n2_ n3_ n4_ n5_ n6_ n7_ n8_ n9_ n10_ n11_ n12_ n13_ n14_ n15_ n16_ n17_ n18_ n19_ n20_ n21_ n22_ n23_ n24_ n25_ n26_ n27_ n28_
             have hHeld : w190.cell? ⟨gb752, 0, none⟩ = some (.slice A0_0 l0_0.length c0_0) ∧ w190.cell? ⟨gb753, 0, none⟩ = some (.slice A1_0 l1_0.length c1_0) := hS_
             obtain ⟨Ao191, co191, eo191⟩ := Kd.R_slice HO805.out
             (first | subst eo191 | (injection eo191 with f1_ f2_ f3_; have f4_ := f1_.symm; have f5_ := f3_.symm; clear f1_ f2_ f3_; subst f4_; subst f5_))
             refine norm_ (a' := ?_) ?_ ?_
             rotate_left
             ·simp only [putAll, Act.put, List.setIfInBounds_toArray, List.set_cons_zero, List.set_cons_succ]
              rfl
             refine one_ (i := 9) (N := none) #[true, true, true, true, true, true, true, true, true, true, false] rfl rfl (one_of HT_.out (by kernel_rfl)) (by decide) (fun K hK => ?_)
             have hs192 : w190.cell? ⟨gb807, 0, none⟩ = some (.slice none 0 0) := (blk_cell BK807.out 0).trans rfl
             have hfs192 := blk_frozen BK807.out 0
             have hns192_0 := NB752_807.out
             have hns192_1 := NB753_807.out
             have hns192_2 := NB766_807.out
             have hns192_3 := NB770_807.out
             have hns192_4 := NB774_807.out
             have hns192_5 := NB779_807.out
             have hms192_0 := NB807_752.out
             have hms192_1 := NB807_753.out
             have hms192_2 := NB807_766.out
             have hms192_3 := NB807_770.out
             have hms192_4 := NB807_774.out
             have hms192_5 := NB807_779.out
             refine skip_ (w1 := ?_) (by rfl) rfl ?_ ?_
             rotate_left
             ·go_simp
              rfl
             refine hK.out _ _ ⟨((cell_far (p := ⟨gb807, _, none⟩) NB752_807.out _).trans (hHeld.1)), ((cell_far (p := ⟨gb807, _, none⟩) NB753_807.out _).trans (hHeld.2))⟩ (fun hHeld => ?_)
             clear hK K
             refine pure_ (i := 10) (N := some 16) (v := ?_) (a' := ?_) #[true, true, true, true, true, true, true, true, true, true, true] rfl rfl (any_of HT_.out (by kernel_rfl)) (fun _ _ _ h => h) (Or.inl ⟨by rfl, ?_⟩) ?_ ?_
             rotate_left
             ·intro w'
              go_simp
              with_reducible rfl
             rotate_left
             ·simp only [Act.put, List.setIfInBounds_toArray, List.set_cons_zero, List.set_cons_succ, i64_w, i32_w]
              rfl
             refine done_ (done_of HT_.out (by kernel_rfl)) ?_
             go_upto_region 32 with (fail)
             go_cut [110] (fun v110 wc => ∃ (kq : Nat) (x110_172 : Bool), v110 = .bool x110_172 ∧ Aside0 (laws_FnExactTimesTrie.j2 kq t794 x110_172 t795 = some true) ∧ Aside0 (kq ≤ kj106) ∧ Aside0 (Kd.R k76 76 wc w.heap.size (fun k_ => some k_ ≠ ((.slice Ao47 t790.length co47) : Value).ownBlock ∧ some k_ ≠ ((.slice Ao56 t792.length co56) : Value).ownBlock ∧ some k_ ≠ ((.slice Ao65 t775.length co65) : Value).ownBlock ∧ some k_ ≠ ((.slice Ao191 t803.length co191) : Value).ownBlock) (.slice Ao41 t762.length co41) t762) ∧ Aside0 (Kd.R k76 76 wc w.heap.size (fun k_ => some k_ ≠ ((.slice Ao41 t762.length co41) : Value).ownBlock ∧ some k_ ≠ ((.slice Ao56 t792.length co56) : Value).ownBlock ∧ some k_ ≠ ((.slice Ao65 t775.length co65) : Value).ownBlock ∧ some k_ ≠ ((.slice Ao191 t803.length co191) : Value).ownBlock) (.slice Ao47 t790.length co47) t790) ∧ Aside0 (Kd.R k76 76 wc w.heap.size (fun k_ => some k_ ≠ ((.slice Ao41 t762.length co41) : Value).ownBlock ∧ some k_ ≠ ((.slice Ao47 t790.length co47) : Value).ownBlock ∧ some k_ ≠ ((.slice Ao65 t775.length co65) : Value).ownBlock ∧ some k_ ≠ ((.slice Ao191 t803.length co191) : Value).ownBlock) (.slice Ao56 t792.length co56) t792) ∧ Aside0 (Kd.R k76 76 wc w.heap.size (fun k_ => some k_ ≠ ((.slice Ao41 t762.length co41) : Value).ownBlock ∧ some k_ ≠ ((.slice Ao47 t790.length co47) : Value).ownBlock ∧ some k_ ≠ ((.slice Ao56 t792.length co56) : Value).ownBlock ∧ some k_ ≠ ((.slice Ao191 t803.length co191) : Value).ownBlock) (.slice Ao65 t775.length co65) t795) ∧ Aside0 (Kd.R k76 76 wc w.heap.size (fun k_ => some k_ ≠ ((.slice Ao41 t762.length co41) : Value).ownBlock ∧ some k_ ≠ ((.slice Ao47 t790.length co47) : Value).ownBlock ∧ some k_ ≠ ((.slice Ao56 t792.length co56) : Value).ownBlock ∧ some k_ ≠ ((.slice Ao65 t775.length co65) : Value).ownBlock) (.slice Ao191 t803.length co191) t803) ∧ Aside0 (wc.heap[gb752]? = some (.cells #[(.slice A0_0 l0_0.length c0_0)] 36 (0, 0))) ∧ Aside0 (wc.heap[gb753]? = some (.cells #[(.slice A1_0 l1_0.length c1_0)] 36 (0, 0))) ∧ Aside0 (wc.heap[gb766]? = some (.cells #[(.slice Ao41 t762.length co41)] 26 (0, 0))) ∧ Aside0 (wc.heap[gb770]? = some (.cells #[(.slice Ao47 t790.length co47)] 26 (0, 0))) ∧ Aside0 (wc.heap[gb774]? = some (.cells #[(.slice Ao56 t792.length co56)] 26 (0, 0))) ∧ Aside0 (wc.heap[gb779]? = some (.cells #[(.slice Ao65 t775.length co65)] 26 (0, 0))) ∧ Aside0 (wc.heap[gb807]? = some (.cells #[(.slice Ao191 t803.length co191)] 26 (0, 0))) ∧ Aside0 (Below w.heap.size w wc))
             case first =>
              have H := HC173.out
              clear HC173
              replace H := Option.bind_eq_some_iff.mp H
              obtain ⟨t808, A1930, H⟩ := H
              replace H : (if t808 = true then (laws_FnExactTimesTrie.j2 kj106 t794 (t806 != t765) t795) else (laws_FnExactTimesTrie.j2 kj106 t794 true t795)) = some true := H
              have A193 := Aside0.mk A1930
              clear A1930
              by_cases c194 : t808 = true
              ·subst c194
               have H1 : (laws_FnExactTimesTrie.j2 kj106 t794 (t806 != t765) t795) = some true := by rw [if_pos rfl] at H; exact H
               clear H
               have H := H1
               clear H1
               have H' := Aside0.mk H
               clear H
               have hnb195 := NB807_752.out
               have hnc195 := NB752_807.out
               have hnb196 := NB807_753.out
               have hnc196 := NB753_807.out
               have hnb197 := NB807_766.out
               have hnc197 := NB766_807.out
               have hnb198 := NB807_770.out
               have hnc198 := NB770_807.out
               have hnb199 := NB807_774.out
               have hnc199 := NB774_807.out
               have hnb200 := NB807_779.out
               have hnc200 := NB779_807.out
               have hcz201_0 : w190.cell? ⟨gb807, 0, none⟩ = some (.slice none 0 0) := (blk_cell BK807.out 0).trans rfl
               have hfz201_0 := blk_frozen BK807.out 0
               have hnb202 := NB766_752.out
               have hnc202 := NB752_766.out
               have hnb203 := NB766_753.out
               have hnc203 := NB753_766.out
               have hnb204 := NB766_770.out
               have hnc204 := NB770_766.out
               have hnb205 := NB766_774.out
               have hnc205 := NB774_766.out
               have hnb206 := NB766_779.out
               have hnc206 := NB779_766.out
               have hcz207_0 : w190.cell? ⟨gb766, 0, none⟩ = some (.slice Ao41 t762.length co41) := (blk_cell BK766.out 0).trans rfl
               have hfz207_0 := blk_frozen BK766.out 0
               go_wp2_with (first | ((with_reducible refine gate_callee (f := 16) rfl ?_); refine goesL_ (some 104) rfl rfl Tryd.func16 (by kernel_rfl) rfl #[.agg #[.slice Ao191 t803.length co191], .agg #[.slice Ao41 t762.length co41]] rfl (by (try simp only [List.map_toArray, List.map_cons, List.map_nil]); first | done | rfl | (simp only [List.length_drop, List.length_take]; rfl)) ?_; (with_reducible refine (laws_eqTrie.calls kj106 _ _ t803 _ _ t762 true _ ?side1 ?side2 ?side3 ?side4 A193.out).mono ?_); (case side1 => refine (Kd.R_reads' (e := 76) (base := w.heap.size) (ok := fun k_ => (some k_ ≠ (v798 : Value).ownBlock ∧ (some k_ ≠ (v801 : Value).ownBlock ∧ (some k_ ≠ (.slice Ao41 t762.length co41 : Value).ownBlock ∧ (some k_ ≠ (.slice Ao47 t790.length co47 : Value).ownBlock ∧ (some k_ ≠ (.slice Ao56 t792.length co56 : Value).ownBlock ∧ some k_ ≠ (.slice Ao65 t775.length co65 : Value).ownBlock)))))) (n := t803.length) (c := co191) ?_).2.2; exact (by (with_reducible repeat (first | apply Kd.R_alloc | apply Kd.R_drewN | apply Kd.R_drew)); exact (Kd.R_mono (R_same_ (Kd.R_far (p := ⟨gb807, 0, none⟩) (Kd.R_types HO805.out BK807.out (by decide)) (fun _ hk => hk.2) (.slice Ao191 t803.length co191)) rfl) (fun _ h_ => h_.1)))); (case side2 => exact (Kd.R_reads' HO805.out).2.1); (case side3 => refine (Kd.R_reads' (e := 76) (base := w.heap.size) (ok := fun k_ => (some k_ ≠ (v798 : Value).ownBlock ∧ (some k_ ≠ (v801 : Value).ownBlock ∧ (some k_ ≠ (.slice Ao191 t803.length co191 : Value).ownBlock ∧ (some k_ ≠ (.slice Ao47 t790.length co47 : Value).ownBlock ∧ (some k_ ≠ (.slice Ao56 t792.length co56 : Value).ownBlock ∧ some k_ ≠ (.slice Ao65 t775.length co65 : Value).ownBlock)))))) (n := t762.length) (c := co41) ?_).2.2; exact (by (with_reducible repeat (first | apply Kd.R_alloc | apply Kd.R_drewN | apply Kd.R_drew)); exact (Kd.R_mono (R_same_ (Kd.R_far (p := ⟨gb807, 0, none⟩) (Kd.R_types HO_767000.out BK807.out (by decide)) (fun _ hk => hk.2) (.slice Ao191 t803.length co191)) rfl) (fun _ h_ => h_.1)))); (case side4 => exact (Kd.R_reads' HO_767000.out).2.1); rintro e w208 ⟨rfl, hb⟩; refine ⟨_, rfl, ?_⟩; have n0_ := Aside0.mk (Kd.R_below (by (with_reducible repeat (first | apply Kd.R_alloc | apply Kd.R_drewN | apply Kd.R_drew)); exact (Kd.R_mono (R_same_ (Kd.R_far (p := ⟨gb807, 0, none⟩) (Kd.R_types HO_767000.out BK807.out (by decide)) (fun _ hk => hk.2) (.slice Ao191 t803.length co191)) rfl) (fun _ h_ => h_.1))) hb); have n1_ := Aside0.mk (Kd.R_below (by (with_reducible repeat (first | apply Kd.R_alloc | apply Kd.R_drewN | apply Kd.R_drew)); exact (Kd.R_mono (R_same_ (Kd.R_far (p := ⟨gb807, 0, none⟩) (Kd.R_types HO_771000.out BK807.out (by decide)) (fun _ hk => hk.2) (.slice Ao191 t803.length co191)) rfl) (fun _ h_ => h_.1))) hb); have n2_ := Aside0.mk (Kd.R_below (by (with_reducible repeat (first | apply Kd.R_alloc | apply Kd.R_drewN | apply Kd.R_drew)); exact (Kd.R_mono (R_same_ (Kd.R_far (p := ⟨gb807, 0, none⟩) (Kd.R_types HO_775000.out BK807.out (by decide)) (fun _ hk => hk.2) (.slice Ao191 t803.length co191)) rfl) (fun _ h_ => h_.1))) hb); have n3_ := Aside0.mk (Kd.R_below (by (with_reducible repeat (first | apply Kd.R_alloc | apply Kd.R_drewN | apply Kd.R_drew)); exact (Kd.R_mono (R_same_ (Kd.R_far (p := ⟨gb807, 0, none⟩) (Kd.R_types HO_780000.out BK807.out (by decide)) (fun _ hk => hk.2) (.slice Ao191 t803.length co191)) rfl) (fun _ h_ => h_.1))) hb); have n4_ := Aside0.mk (Kd.R_below (by (with_reducible repeat (first | apply Kd.R_alloc | apply Kd.R_drewN | apply Kd.R_drew)); exact (Kd.R_mono (R_same_ (Kd.R_far (p := ⟨gb807, 0, none⟩) (Kd.R_types HO799.out BK807.out (by decide)) (fun _ hk => hk.2) (.slice Ao191 t803.length co191)) rfl) (fun _ h_ => h_.1))) hb); have n5_ := Aside0.mk (Kd.R_below (by (with_reducible repeat (first | apply Kd.R_alloc | apply Kd.R_drewN | apply Kd.R_drew)); exact (Kd.R_mono (R_same_ (Kd.R_far (p := ⟨gb807, 0, none⟩) (Kd.R_types HO802.out BK807.out (by decide)) (fun _ hk => hk.2) (.slice Ao191 t803.length co191)) rfl) (fun _ h_ => h_.1))) hb); have n6_ := Aside0.mk (Kd.R_below (by (with_reducible repeat (first | apply Kd.R_alloc | apply Kd.R_drewN | apply Kd.R_drew)); exact (Kd.R_mono (R_same_ (Kd.R_far (p := ⟨gb807, 0, none⟩) (Kd.R_types HO805.out BK807.out (by decide)) (fun _ hk => hk.2) (.slice Ao191 t803.length co191)) rfl) (fun _ h_ => h_.1))) hb); have n7_ := Aside0.mk (blk_below (g := gb752) (o := .cells #[.slice A0_0 l0_0.length c0_0] 36 (0, 0)) (by (with_reducible repeat (first | refine blk_drewN ?_ _ | refine blk_drew ?_ | refine blk_alloc ?_ _)); refine blk_far ?_ NB752_807.out _; (with_reducible repeat (first | refine blk_drewN ?_ _ | refine blk_drew ?_ | refine blk_alloc ?_ _)); exact BK752.out) hb); have n8_ := Aside0.mk (blk_below (g := gb753) (o := .cells #[.slice A1_0 l1_0.length c1_0] 36 (0, 0)) (by (with_reducible repeat (first | refine blk_drewN ?_ _ | refine blk_drew ?_ | refine blk_alloc ?_ _)); refine blk_far ?_ NB753_807.out _; (with_reducible repeat (first | refine blk_drewN ?_ _ | refine blk_drew ?_ | refine blk_alloc ?_ _)); exact BK753.out) hb); have n9_ := Aside0.mk (blk_below (g := gb766) (o := .cells #[.slice Ao41 t762.length co41] 26 (0, 0)) (by (with_reducible repeat (first | refine blk_drewN ?_ _ | refine blk_drew ?_ | refine blk_alloc ?_ _)); refine blk_far ?_ NB766_807.out _; (with_reducible repeat (first | refine blk_drewN ?_ _ | refine blk_drew ?_ | refine blk_alloc ?_ _)); exact BK766.out) hb); have n10_ := Aside0.mk (blk_below (g := gb770) (o := .cells #[.slice Ao47 t790.length co47] 26 (0, 0)) (by (with_reducible repeat (first | refine blk_drewN ?_ _ | refine blk_drew ?_ | refine blk_alloc ?_ _)); refine blk_far ?_ NB770_807.out _; (with_reducible repeat (first | refine blk_drewN ?_ _ | refine blk_drew ?_ | refine blk_alloc ?_ _)); exact BK770.out) hb); have n11_ := Aside0.mk (blk_below (g := gb774) (o := .cells #[.slice Ao56 t792.length co56] 26 (0, 0)) (by (with_reducible repeat (first | refine blk_drewN ?_ _ | refine blk_drew ?_ | refine blk_alloc ?_ _)); refine blk_far ?_ NB774_807.out _; (with_reducible repeat (first | refine blk_drewN ?_ _ | refine blk_drew ?_ | refine blk_alloc ?_ _)); exact BK774.out) hb); have n12_ := Aside0.mk (blk_below (g := gb779) (o := .cells #[.slice Ao65 t775.length co65] 26 (0, 0)) (by (with_reducible repeat (first | refine blk_drewN ?_ _ | refine blk_drew ?_ | refine blk_alloc ?_ _)); refine blk_far ?_ NB779_807.out _; (with_reducible repeat (first | refine blk_drewN ?_ _ | refine blk_drew ?_ | refine blk_alloc ?_ _)); exact BK779.out) hb); have n13_ := Aside0.mk (blk_below (g := gb807) (o := .cells #[.slice Ao191 t803.length co191] 26 (0, 0)) (by (with_reducible repeat (first | refine blk_drewN ?_ _ | refine blk_drew ?_ | refine blk_alloc ?_ _)); refine blk_put (cs := #[.slice none 0 0]) ?_ 0 _ rfl; (with_reducible repeat (first | refine blk_drewN ?_ _ | refine blk_drew ?_ | refine blk_alloc ?_ _)); exact BK807.out) hb); have n14_ := Aside0.mk (below_step (by repeat (first | (with_reducible first | exact HB.out | apply below_alloc | apply pw_below_drewN | apply below_drew1 | refine below_set ?_ GE752.out | refine below_set ?_ GE753.out | refine below_set ?_ GE766.out | refine below_set ?_ GE770.out | refine below_set ?_ GE774.out | refine below_set ?_ GE779.out | refine below_set ?_ GE807.out) | exact HB.out)) hb); clear HO_767000; clear HO_771000; clear HO_775000; clear HO_780000; clear HO799; clear HO802; clear HO805; clear BK752; clear BK753; clear BK766; clear BK770; clear BK774; clear BK779; clear BK807; clear HB; have HO_767000 := n0_; have HO_771000 := n1_; have HO_775000 := n2_; have HO_780000 := n3_; have HO799 := n4_; have HO802 := n5_; have HO805 := n6_; have BK752 := n7_; have BK753 := n8_; have BK766 := n9_; have BK770 := n10_; have BK774 := n11_; have BK779 := n12_; have BK807 := n13_; have HB := n14_; clear n0_ n1_ n2_ n3_ n4_ n5_ n6_ n7_ n8_ n9_ n10_ n11_ n12_ n13_ n14_; (try clear hb); (try clear hb2); (try clear hk); (try clear hi)))
               go_meet
               case rel => exact ⟨_, ((t806 != t765)), (by first | rfl | (simp; done) | (simp [*]; done)), H', ⟨by have := HJ24.out; have := HJ106.out; first | omega | exact Nat.le_refl _⟩, ⟨by (try simp only [hl771000_106]); (try simp only [hl775000_106]); (with_reducible repeat (first | apply Kd.R_alloc | apply Kd.R_drewN | apply Kd.R_drew)); exact Kd.R_mono HO_767000.out (fun _ hk => ⟨hk.2.2.2.1, ⟨hk.2.2.2.2.1, ⟨hk.2.2.2.2.2, hk.2.2.1⟩⟩⟩)⟩, ⟨by (try simp only [hl771000_106]); (try simp only [hl775000_106]); (with_reducible repeat (first | apply Kd.R_alloc | apply Kd.R_drewN | apply Kd.R_drew)); exact Kd.R_mono HO_771000.out (fun _ hk => ⟨hk.2.2.2.1, ⟨hk.2.2.2.2.1, ⟨hk.2.2.2.2.2, hk.2.2.1⟩⟩⟩)⟩, ⟨by (try simp only [hl771000_106]); (try simp only [hl775000_106]); (with_reducible repeat (first | apply Kd.R_alloc | apply Kd.R_drewN | apply Kd.R_drew)); exact Kd.R_mono HO_775000.out (fun _ hk => ⟨hk.2.2.2.1, ⟨hk.2.2.2.2.1, ⟨hk.2.2.2.2.2, hk.2.2.1⟩⟩⟩)⟩, ⟨by (try simp only [hl771000_106]); (try simp only [hl775000_106]); (with_reducible repeat (first | apply Kd.R_alloc | apply Kd.R_drewN | apply Kd.R_drew)); exact Kd.R_mono HO_780000.out (fun _ hk => ⟨hk.2.2.2.1, ⟨hk.2.2.2.2.1, ⟨hk.2.2.2.2.2, hk.2.2.1⟩⟩⟩)⟩, ⟨by (try simp only [hl771000_106]); (try simp only [hl775000_106]); (with_reducible repeat (first | apply Kd.R_alloc | apply Kd.R_drewN | apply Kd.R_drew)); exact Kd.R_mono HO805.out (fun _ hk => ⟨hk.2.2.1, ⟨hk.2.2.2.1, ⟨hk.2.2.2.2.1, hk.2.2.2.2.2⟩⟩⟩)⟩, ⟨by (try simp only [hl771000_106]); (try simp only [hl775000_106]); (with_reducible repeat (first | refine blk_drewN ?_ _ | refine blk_drew ?_ | refine blk_alloc ?_ _)); exact BK752.out⟩, ⟨by (try simp only [hl771000_106]); (try simp only [hl775000_106]); (with_reducible repeat (first | refine blk_drewN ?_ _ | refine blk_drew ?_ | refine blk_alloc ?_ _)); exact BK753.out⟩, ⟨by (try simp only [hl771000_106]); (try simp only [hl775000_106]); (with_reducible repeat (first | refine blk_drewN ?_ _ | refine blk_drew ?_ | refine blk_alloc ?_ _)); exact BK766.out⟩, ⟨by (try simp only [hl771000_106]); (try simp only [hl775000_106]); (with_reducible repeat (first | refine blk_drewN ?_ _ | refine blk_drew ?_ | refine blk_alloc ?_ _)); exact BK770.out⟩, ⟨by (try simp only [hl771000_106]); (try simp only [hl775000_106]); (with_reducible repeat (first | refine blk_drewN ?_ _ | refine blk_drew ?_ | refine blk_alloc ?_ _)); exact BK774.out⟩, ⟨by (try simp only [hl771000_106]); (try simp only [hl775000_106]); (with_reducible repeat (first | refine blk_drewN ?_ _ | refine blk_drew ?_ | refine blk_alloc ?_ _)); exact BK779.out⟩, ⟨by (try simp only [hl771000_106]); (try simp only [hl775000_106]); (with_reducible repeat (first | refine blk_drewN ?_ _ | refine blk_drew ?_ | refine blk_alloc ?_ _)); exact BK807.out⟩, ⟨by repeat (first | (with_reducible first | exact HB.out | apply below_alloc | apply pw_below_drewN | apply below_drew1 | refine below_set ?_ GE752.out | refine below_set ?_ GE753.out | refine below_set ?_ GE766.out | refine below_set ?_ GE770.out | refine below_set ?_ GE774.out | refine below_set ?_ GE779.out | refine below_set ?_ GE807.out) | exact HB.out)⟩⟩
              ·replace c194 := Bool.eq_false_iff.mpr c194
               subst c194
               have H1 : (laws_FnExactTimesTrie.j2 kj106 t794 true t795) = some true := by rw [if_neg (show ¬ (false = true) by decide)] at H; exact H
               exact absurd H1 (by cases kj106 <;> simp [laws_FnExactTimesTrie.j2])
             case rest =>
              clear HC173
              try clear c1
              try clear c2
              try clear p2
              try clear c3
              try clear c16
              try clear c19
              try clear c20
              try clear c21
              try clear c22
              try clear c23
              try clear c34
              try clear c194
              try clear c195
              try clear c196
              try clear c197
              try clear c198
              try clear c199
              try clear c200
              try clear c202
              try clear c203
              try clear c204
              try clear c205
              try clear c206
              try clear c209
              try clear c210
              try clear c211
              try clear c212
              try clear c213
              try clear c214
              try clear c216
              try clear c217
              try clear c218
              try clear c219
              try clear c220
              try clear hcz201_0
              try clear hcz207_0
              try clear hcz215_0
              try clear hcz221_0
              try clear hfz201_0
              try clear hfz207_0
              try clear hfz215_0
              try clear hfz221_0
              obtain ⟨kq, x110_172, rfl, HA, HJ172, HO_767000, HO_771000, HO_775000, HO_780000, HO_808000, BK752, BK753, BK766, BK770, BK774, BK779, BK807, HB⟩ := hcut
              have hl780000_172 := (Kd.R_reads' HO_780000.out).1
              rw [hl780000_172] at HO_780000
              (try simp only [hl780000_172])
              (try simp only [hl780000_172] at BK752)
              (try simp only [hl780000_172] at BK753)
              (try simp only [hl780000_172] at BK766)
              (try simp only [hl780000_172] at BK770)
              (try simp only [hl780000_172] at BK774)
              (try simp only [hl780000_172] at BK779)
              (try simp only [hl780000_172] at BK807)
              (try simp only [hl780000_172] at HO_767000)
              (try simp only [hl780000_172] at HO_771000)
              (try simp only [hl780000_172] at HO_775000)
              (try simp only [hl780000_172] at HO_808000)
              cases kq with
              | zero => exact absurd HA.out (by simp [laws_FnExactTimesTrie.j2])
              | succ kj172 =>
               have H := HA.out
               clear HA
               simp only [laws_FnExactTimesTrie.j2] at H
               by_cases c223 : x110_172 = true
               ·subst c223
                have H1 : (some false) = some true := by rw [if_pos rfl] at H; exact H
                exact absurd H1 (by simp)
               ·replace c223 := Bool.eq_false_iff.mpr c223
                subst c223
                have H1 : ((laws_heldTrie.f kj172 t795 1).bind fun t809 => (if t809 < 0 then (some false) else (if t809 = t794 then (some true) else (some false)))) = some true := by rw [if_neg (show ¬ (false = true) by decide)] at H; exact H
                clear H
                have H := H1
                clear H1
                replace H := Option.bind_eq_some_iff.mp H
                obtain ⟨t809, A2240, H⟩ := H
                replace H : (if t809 < 0 then (some false) else (if t809 = t794 then (some true) else (some false))) = some true := H
                have A224 := Aside0.mk A2240
                clear A2240
                by_cases c225 : t809 < 0
                ·rw [if_pos c225] at H
                 exact absurd H (by simp)
                ·rw [if_neg c225] at H
                 have c225b0 : decide (t809 < 0) = false := decide_eq_false c225
                 clear c225
                 by_cases c234 : t809 = t794
                 ·rw [if_pos c234] at H
                  have c234b0 : (t809 == t794) = true := beq_iff_eq.mpr c234
                  have c234b1 : (t809 != t794) = false := bne_eq_false_iff_eq.mpr c234
                  clear c234
                  (first | (obtain rfl := Option.some.inj H) | (have hH_ := Option.some.inj H; try simp only [hH_]))
                  have hnb235 := NB779_752.out
                  have hnc235 := NB752_779.out
                  have hnb236 := NB779_753.out
                  have hnc236 := NB753_779.out
                  have hnb237 := NB779_766.out
                  have hnc237 := NB766_779.out
                  have hnb238 := NB779_770.out
                  have hnc238 := NB770_779.out
                  have hnb239 := NB779_774.out
                  have hnc239 := NB774_779.out
                  have hnb240 := NB779_807.out
                  have hnc240 := NB807_779.out
                  have hcz241_0 : wc.cell? ⟨gb779, 0, none⟩ = some (.slice Ao65 t795.length co65) := (blk_cell BK779.out 0).trans rfl
                  have hfz241_0 := blk_frozen BK779.out 0
                  go_wp2_with (first | ((with_reducible refine gate_callee (f := 20) rfl ?_); refine goesL_ (some 113) rfl rfl Tryd.func20 (by kernel_rfl) rfl #[.agg #[.slice Ao65 t795.length co65], .int .i64 1] rfl (by (try simp only [List.map_toArray, List.map_cons, List.map_nil]); first | done | rfl | (simp only [List.length_drop, List.length_take]; rfl)) ?_; (with_reducible refine (laws_heldTrie.calls kj172 _ _ t795 1 t809 _ ?side1 ?side2 A224.out).mono ?_); (case side1 => repeat (first | exact (Kd.R_reads' HO_780000.out).2.2 | (with_reducible refine Kd.C_alloc ?_ _) | (with_reducible refine Kd.C_drewN ?_ _) | (with_reducible refine Kd.C_drew ?_))); (case side2 => exact (Kd.R_reads' HO_780000.out).2.1); rintro e w242 ⟨rfl, hb⟩; refine ⟨_, rfl, ?_⟩; have n0_ := Aside0.mk (Kd.R_below (by (with_reducible repeat (first | apply Kd.R_alloc | apply Kd.R_drewN | apply Kd.R_drew)); exact HO_767000.out) hb); have n1_ := Aside0.mk (Kd.R_below (by (with_reducible repeat (first | apply Kd.R_alloc | apply Kd.R_drewN | apply Kd.R_drew)); exact HO_771000.out) hb); have n2_ := Aside0.mk (Kd.R_below (by (with_reducible repeat (first | apply Kd.R_alloc | apply Kd.R_drewN | apply Kd.R_drew)); exact HO_775000.out) hb); have n3_ := Aside0.mk (Kd.R_below (by (with_reducible repeat (first | apply Kd.R_alloc | apply Kd.R_drewN | apply Kd.R_drew)); exact HO_780000.out) hb); have n4_ := Aside0.mk (Kd.R_below (by (with_reducible repeat (first | apply Kd.R_alloc | apply Kd.R_drewN | apply Kd.R_drew)); exact HO_808000.out) hb); have n5_ := Aside0.mk (blk_below (g := gb752) (o := .cells #[.slice A0_0 l0_0.length c0_0] 36 (0, 0)) (by (with_reducible repeat (first | refine blk_drewN ?_ _ | refine blk_drew ?_ | refine blk_alloc ?_ _)); exact BK752.out) hb); have n6_ := Aside0.mk (blk_below (g := gb753) (o := .cells #[.slice A1_0 l1_0.length c1_0] 36 (0, 0)) (by (with_reducible repeat (first | refine blk_drewN ?_ _ | refine blk_drew ?_ | refine blk_alloc ?_ _)); exact BK753.out) hb); have n7_ := Aside0.mk (blk_below (g := gb766) (o := .cells #[.slice Ao41 t762.length co41] 26 (0, 0)) (by (with_reducible repeat (first | refine blk_drewN ?_ _ | refine blk_drew ?_ | refine blk_alloc ?_ _)); exact BK766.out) hb); have n8_ := Aside0.mk (blk_below (g := gb770) (o := .cells #[.slice Ao47 t790.length co47] 26 (0, 0)) (by (with_reducible repeat (first | refine blk_drewN ?_ _ | refine blk_drew ?_ | refine blk_alloc ?_ _)); exact BK770.out) hb); have n9_ := Aside0.mk (blk_below (g := gb774) (o := .cells #[.slice Ao56 t792.length co56] 26 (0, 0)) (by (with_reducible repeat (first | refine blk_drewN ?_ _ | refine blk_drew ?_ | refine blk_alloc ?_ _)); exact BK774.out) hb); have n10_ := Aside0.mk (blk_below (g := gb779) (o := .cells #[.slice Ao65 t795.length co65] 26 (0, 0)) (by (with_reducible repeat (first | refine blk_drewN ?_ _ | refine blk_drew ?_ | refine blk_alloc ?_ _)); exact BK779.out) hb); have n11_ := Aside0.mk (blk_below (g := gb807) (o := .cells #[.slice Ao191 t803.length co191] 26 (0, 0)) (by (with_reducible repeat (first | refine blk_drewN ?_ _ | refine blk_drew ?_ | refine blk_alloc ?_ _)); exact BK807.out) hb); have n12_ := Aside0.mk (below_step (by repeat (first | (with_reducible first | exact HB.out | apply below_alloc | apply pw_below_drewN | apply below_drew1 | refine below_set ?_ GE752.out | refine below_set ?_ GE753.out | refine below_set ?_ GE766.out | refine below_set ?_ GE770.out | refine below_set ?_ GE774.out | refine below_set ?_ GE779.out | refine below_set ?_ GE807.out) | exact HB.out)) hb); clear HO_767000; clear HO_771000; clear HO_775000; clear HO_780000; clear HO_808000; clear BK752; clear BK753; clear BK766; clear BK770; clear BK774; clear BK779; clear BK807; clear HB; have HO_767000 := n0_; have HO_771000 := n1_; have HO_775000 := n2_; have HO_780000 := n3_; have HO_808000 := n4_; have BK752 := n5_; have BK753 := n6_; have BK766 := n7_; have BK770 := n8_; have BK774 := n9_; have BK779 := n10_; have BK807 := n11_; have HB := n12_; clear n0_ n1_ n2_ n3_ n4_ n5_ n6_ n7_ n8_ n9_ n10_ n11_ n12_; (try clear hb); (try clear hb2); (try clear hk); (try clear hi)))
                  go_ret
                  exact ⟨by first | rfl | (simp [errW_none, errW_some] <;> rfl) | (simp [*, errW_none, errW_some] <;> rfl), by repeat (first | (with_reducible first | exact HB.out | apply below_alloc | apply pw_below_drewN | apply below_drew1 | refine below_set ?_ GE752.out | refine below_set ?_ GE753.out | refine below_set ?_ GE766.out | refine below_set ?_ GE770.out | refine below_set ?_ GE774.out | refine below_set ?_ GE779.out | refine below_set ?_ GE807.out) | exact HB.out)⟩
                 ·rw [if_neg c234] at H
                  exact absurd H (by simp)
            ·rw [if_neg c169] at H
             exact absurd H (by simp)
       ·replace c104 := Bool.eq_false_iff.mpr c104
        subst c104
        have H1 : (some false) = some true := by rw [if_neg (show ¬ (false = true) by decide)] at H; exact H
        exact absurd H1 (by simp)
      ·replace c101 := Bool.eq_false_iff.mpr c101
       subst c101
       have H1 : (some false) = some true := by rw [if_neg (show ¬ (false = true) by decide)] at H; exact H
       exact absurd H1 (by simp)
end Go.Proofs.YtefcbnlljpdjnaaDoor.Q
namespace Go.Proofs.YtefcbnlljpdjnaaDoor.Q
open Go.RowKit Go.Proofs.YtefcbnlljpdjnaaDoorW.PrintWords Go.Proofs.YtefcbnlljpdjnaaDoorW.PrintLast
abbrev LN := S81
abbrev IN := S76
instance : DecidableEq IN := fun a b => decidable_of_iff (a.f0 = b.f0 ∧ a.f1 = b.f1 ∧ a.f2 = b.f2) ⟨fun h => by
  obtain ⟨a0, a1, a2⟩ := a
  obtain ⟨b0, b1, b2⟩ := b
  obtain ⟨rfl, rfl, rfl⟩ := h
  rfl, fun h => by subst h; exact ⟨rfl, rfl, rfl⟩⟩
def cv (l : List LN) : List IN := l.map fun x => ⟨x.f0, x.f1, x.f2⟩
theorem cv_length (l : List LN) : (cv l).length = l.length := List.length_map _
theorem toNodeS_l0 (l : List LN) (hl : l.length ≤ 1048576) : ∀ (n i : Nat), i + n = l.length → Ev (fun k => laws_toNodeS.l0 k l ((cv l).take i ++ List.replicate n z76) (i : Int)) (cv l) := by
 intro n
 induction n with
 | zero =>
  intro i h
  refine Ev.succ ?_
  simp only [laws_toNodeS.l0]
  refine Ev.neg (by omega) ?_
  rw [List.take_of_length_le (by rw [cv_length]; omega), List.replicate_zero, List.append_nil]
  exact Ev.pure _
 | succ n ih =>
  intro i h
  refine Ev.succ ?_
  simp only [laws_toNodeS.l0]
  have hlen : ((cv l).take i ++ List.replicate (n + 1) z76).length = l.length := by simp [cv_length]; omega
  refine Ev.pos (by omega) (Ev.pos (by omega) (Ev.bindc rfl (Ev.pos (by rw [hlen]; omega) ?_)))
  refine (ih (i + 1) (by omega)).eq fun k => ?_
  rw [wnext i (by omega)]
  congr 1
  have hi : i < l.length := by omega
  have e1 : (cv l).take (i + 1) = (cv l).take i ++ [⟨l[i].f0, l[i].f1, l[i].f2⟩] := by
   rw [List.take_succ_eq_append_getElem (by rw [cv_length]; omega)]
   simp [cv]
  rw [e1, Int.toNat_natCast, List.set_append_right _ _ (by simp; omega)]
  have e2 : i - ((cv l).take i).length = 0 := by simp [cv_length]; omega
  rw [e2, List.replicate_succ, List.set_cons_zero]
  simp [rd_T81, hi]
theorem toTrie_ev (l : List LN) (hl : l.length ≤ 1048576) : Ev (fun k => laws_toTrie.f k l) (cv l) := by
 unfold laws_toTrie.f laws_toNodeS.f
 refine Ev.bind (t := cv l) ?_ (Ev.pure _)
 refine Ev.pos (by omega) (Ev.pos (by omega) ?_)
 have := toNodeS_l0 l hl l.length 0 (by omega)
 simpa using this
theorem szTrie_eq (l : List LN) (hl : l.length ≤ 9223372036854775807) : laws_szTrie.f l 1048576 = some (if l.length ≤ 1048576 then (1048576 - l.length : Int) else -1) := by
 unfold laws_szTrie.f laws_szNodeS.f
 have e : wrap64 (1048576 - (l.length : Int)) = 1048576 - (l.length : Int) := by unfold wrap64; omega
 rw [e]
 by_cases h : l.length ≤ 1048576
 ·rw [if_neg (show ¬ ((1048576 : Int) - l.length < 0) by omega), Option.bind_some, if_neg (show ¬ ((1048576 : Int) - l.length < 0) by omega), if_pos h]
 ·rw [if_pos (show ((1048576 : Int) - l.length < 0) by omega), Option.bind_some, if_pos (by decide), if_neg h]
theorem eqNode_eq (a b : IN) : laws_eqNode.f a.f0 a.f1 a.f2 b.f0 b.f1 b.f2 = some (decide (a = b)) := by
 obtain ⟨a0, a1, a2⟩ := a
 obtain ⟨b0, b1, b2⟩ := b
 unfold laws_eqNode.f
 by_cases h0 : a0 = b0
 ·by_cases h1 : a1 = b1
  ·cases a2 <;> cases b2 <;> simp [h0, h1]
  ·simp [h0, h1]
 ·simp [h0]
theorem rd_nat' (l : List IN) (i : Nat) (h : i < l.length) : rd_T76 l (i : Int) = l[i] := by simp [rd_T76, h]
theorem eqNodeS_l0 (a b : List IN) (hab : a.length = b.length) (hl : a.length ≤ 1048576) : ∀ (n i : Nat), i + n = a.length → Ev (fun k => laws_eqNodeS.l0 k a b (i : Int)) (decide (a.drop i = b.drop i)) := by
 intro n
 induction n with
 | zero =>
  intro i h
  refine Ev.succ ?_
  simp only [laws_eqNodeS.l0]
  refine Ev.neg (by omega) ?_
  rw [List.drop_of_length_le (by omega), List.drop_of_length_le (by omega)]
  exact Ev.pure _
 | succ n ih =>
  intro i h
  refine Ev.succ ?_
  simp only [laws_eqNodeS.l0]
  have hi : i < a.length := by omega
  have hi2 : i < b.length := by omega
  refine Ev.pos (by omega) (Ev.pos (by omega) (Ev.pos (by omega) ?_))
  simp only [eqNode_eq, Option.bind_some, rd_nat' a i hi, rd_nat' b i hi2]
  have hd : (a.drop i = b.drop i) ↔ (a[i] = b[i] ∧ a.drop (i + 1) = b.drop (i + 1)) := by
   rw [List.drop_eq_getElem_cons hi, List.drop_eq_getElem_cons hi2]
   exact List.cons_eq_cons
  rw [decide_eq_decide.2 hd]
  by_cases e : a[i] = b[i]
  ·refine Ev.pos (by simp [e]) ?_
   rw [wnext i (by omega)]
   have hq := ih (i + 1) (by omega)
   have e2 : decide (a[i] = b[i] ∧ a.drop (i + 1) = b.drop (i + 1)) = decide (a.drop (i + 1) = b.drop (i + 1)) := decide_eq_decide.2 (and_iff_right e)
   rw [e2]
   exact hq
  ·refine Ev.neg (by simp [e]) ?_
   have e2 : decide (a[i] = b[i] ∧ a.drop (i + 1) = b.drop (i + 1)) = false := decide_eq_false (fun h => e h.1)
   rw [e2]
   exact Ev.pure _
theorem eqTrie_ev (a b : List IN) (hl : a.length ≤ 1048576) : Ev (fun k => laws_eqTrie.f k a b) (decide (a = b)) := by
 unfold laws_eqTrie.f laws_eqNodeS.f
 by_cases hab : a.length = b.length
 ·refine Ev.bind (t := decide (a = b)) (Ev.pos (by omega) ?_) ?_
  ·simpa using eqNodeS_l0 a b hab hl a.length 0 (by omega)
  ·by_cases e : a = b
   ·simp only [e, decide_true, if_true]; exact Ev.pure _
   ·simp only [e, decide_false, Bool.false_eq_true, if_false]; exact Ev.pure _
 ·have e : a ≠ b := fun h => hab (congrArg List.length h)
  refine Ev.bind (t := false) (Ev.neg (by omega) (Ev.pure _)) ?_
  simp only [e, decide_false, Bool.false_eq_true, if_false]
  exact Ev.pure _
end Go.Proofs.YtefcbnlljpdjnaaDoor.Q
